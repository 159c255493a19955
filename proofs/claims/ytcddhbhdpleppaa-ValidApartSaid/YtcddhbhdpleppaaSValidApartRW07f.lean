/- The document's answers of the validity layer, over the logic of partial memories. No conditions. -/
import Derived.Test.YtcddhbhdpleppaaSValidApartRW08e
import Derived.Test.YtcddhbhdpleppaaREq
import Derived.Test.YtcddhbhdpleppaaSValidApartRW07e
set_option linter.unusedVariables false
set_option linter.unusedSimpArgs false
namespace Go.Proofs.Ytcddhbhdpleppaa.R
open Go Go.RowKit Go.Proofs.Ytcddhbhdpleppaa
set_option maxRecDepth 100000
set_option maxHeartbeats 8000000
section
variable {W0 : World}
end
end Go.Proofs.Ytcddhbhdpleppaa.R
/- The document's answers of the validity layer: windows and schedules. No conditions. -/
set_option linter.unusedVariables false
set_option linter.unusedSimpArgs false
namespace Go.Proofs.Ytcddhbhdpleppaa.R
open Go Go.RowKit Go.Proofs.Ytcddhbhdpleppaa
set_option maxRecDepth 100000
set_option maxHeartbeats 8000000
section
variable {W0 : World}
theorem twB_iff : ∀ (l s : List Int), twB s l = false ↔ l.Nodup ∧ ∀ y ∈ l, y ∉ s
  | [], s => by simp [twB]
  | y :: l, s => by
    unfold twB
    by_cases h : y ∈ s
    · rw [if_pos h]; simp [h]
    · rw [if_neg h, twB_iff l (s ++ [y])]
      simp only [List.nodup_cons, List.mem_cons, List.mem_append, List.not_mem_nil, or_false]
      constructor
      · rintro ⟨h1, h2⟩
        refine ⟨⟨fun hy => (h2 y hy) (.inr rfl), h1⟩, ?_⟩
        rintro z (rfl | hz)
        · exact h
        · exact fun hs => h2 z hz (.inl hs)
      · rintro ⟨⟨h1, h2⟩, h3⟩
        refine ⟨h2, fun z hz => ?_⟩
        rintro (hs | rfl)
        · exact h3 z (.inr hz) hs
        · exact h1 hz
end
end Go.Proofs.Ytcddhbhdpleppaa.R
/- The document's answer of the validity layer: schedules. No conditions. -/
set_option linter.unusedVariables false
set_option linter.unusedSimpArgs false
namespace Go.Proofs.Ytcddhbhdpleppaa.R
open Go Go.RowKit Go.Proofs.Ytcddhbhdpleppaa
set_option maxRecDepth 100000
set_option maxHeartbeats 8000000
section
variable {W0 : World}
theorem maxFrom_any : ∀ (l : List Int) (a : Int), (200 < maxFrom a l) ↔ (200 < a ∨ l.any (fun x => decide (200 < x)) = true)
  | [], a => by simp [maxFrom]
  | x :: l, a => by
    unfold maxFrom
    rw [maxFrom_any l (max a x), List.any_cons, Bool.or_eq_true, decide_eq_true_eq]
    constructor
    · rintro (h | h)
      · rcases (by omega : 200 < a ∨ 200 < x) with h | h
        · exact .inl h
        · exact .inr (.inl h)
      · exact .inr (.inr h)
    · rintro (h | h | h)
      · exact .inl (by omega)
      · exact .inl (by omega)
      · exact .inr h
theorem maxL_any {l : List Int} (h : 0 < l.length) : (200 < maxL l) ↔ l.any (fun x => decide (200 < x)) = true := by
  cases l with
  | nil => simp at h
  | cons x l =>
    show 200 < maxFrom x l ↔ _
    rw [maxFrom_any, List.any_cons, Bool.or_eq_true, decide_eq_true_eq]
end
end Go.Proofs.Ytcddhbhdpleppaa.R
/- What may be (valid): the plain facts of a schedule whose Check is 0. No conditions. -/
set_option linter.unusedVariables false
set_option linter.unusedSimpArgs false
namespace Go.Proofs.Ytcddhbhdpleppaa.R
open Go Go.RowKit Go.Proofs.Ytcddhbhdpleppaa
set_option maxRecDepth 100000
set_option maxHeartbeats 8000000
section
theorem badAt_none {k : Int} : ∀ (l : List WinV) (i : Nat), badAt k i l = none → ∀ w ∈ l, winE w k = 0
  | [], _, _, w, hw => by simp at hw
  | x :: l, i, h, w, hw => by
    unfold badAt at h
    split at h
    · rename_i hx
      rcases List.mem_cons.1 hw with rfl | hw
      · exact hx
      · exact badAt_none l _ h w hw
    · cases h
theorem badAt_some {k : Int} : ∀ (l : List WinV) (i j : Nat) (e : Int), badAt k i l = some (j, e) → e ≠ 0
  | [], _, _, _, h => by simp [badAt] at h
  | x :: l, i, j, e, h => by
    unfold badAt at h
    split at h
    · exact badAt_some l _ _ _ h
    · rename_i hx
      injection h with h
      injection h with h1 h2
      rw [← h2]; exact hx
/-- A frame that may be. -/
structure FrOk (l : List WinV) (k v : Int) : Prop where
  len : l.length ≤ 32
  win : ∀ w ∈ l, winE w k = 0
  span : ∀ x ∈ spansOf v l, x ≤ 200
theorem frE_zero {l : List WinV} {k v : Int} (h : (frE l k v).2 = 0) : FrOk l k v := by
  unfold frE at h
  split at h
  · simp at h
  · rename_i hl
    split at h
    · rename_i i e hb
      exact absurd h (badAt_some _ _ _ _ hb)
    · rename_i hb
      split at h
      · simp at h
      · rename_i hm
        refine ⟨by omega, badAt_none _ _ hb, fun x hx => ?_⟩
        have := mt (maxL_any (spansOf_pos v l)).2 hm
        simp only [List.any_eq_true, decide_eq_true_eq, not_exists, not_and] at this
        have := this x hx
        omega
/-- A schedule that may be. -/
structure SchOk (s : SchV) : Prop where
  lo : 2 ≤ s.mods
  hi : s.mods ≤ 16
  f0 : FrOk s.f0.l s.mods 0
  f1 : FrOk s.f1.l s.mods 1
theorem check_ok {s : SchV} (h : (checkE s).2.2 = 0) : SchOk s := by
  unfold checkE at h
  split at h
  · simp at h
  · rename_i hm
    split at h
    · rename_i h0; exact absurd h h0
    · rename_i h0
      split at h
      · rename_i h1; exact absurd h h1
      · rename_i h1
        exact ⟨by omega, by omega, frE_zero (by omega), frE_zero (by omega)⟩
theorem SchOk.fr {s : SchV} (h : SchOk s) {v : Int} (hv : isV v = true) : FrOk (s.fr v).l s.mods v := by
  unfold isV at hv
  simp only [Bool.and_eq_true, decide_eq_true_eq] at hv
  rcases (by omega : v = 0 ∨ v = 1) with rfl | rfl
  · exact h.f0
  · exact h.f1
/-- A message that may be. -/
structure DatOk (w : WinV) (k : Int) : Prop where
  w1 : 1 ≤ w.words
  w8 : w.words ≤ 8
  a0 : 0 ≤ w.addr
  a64 : w.addr + w.words ≤ 64
  f1 : 1 ≤ w.fr.l.length
  f4 : w.fr.l.length ≤ 4
  fin : ∀ y ∈ w.fr.l, 0 ≤ y ∧ y < k
  t1 : 1 ≤ w.to.l.length
  tin : ∀ y ∈ w.to.l, 0 ≤ y ∧ y < k
  fnd : w.fr.l.Nodup
  tnd : w.to.l.Nodup
  tf : ∀ y ∈ w.to.l, y ∉ w.fr.l
theorem namedB_yes {l : List Int} {k : Int} (h : ¬ namedB l k = false) : 1 ≤ l.length ∧ ∀ y ∈ l, 0 ≤ y ∧ y < k := by
  rw [Bool.not_eq_false] at h
  unfold namedB at h
  simp only [Bool.not_eq_true', Bool.or_eq_false_iff, beq_eq_false_iff_ne, List.any_eq_false] at h
  refine ⟨by omega, fun y hy => ?_⟩
  have := h.2 y hy
  unfold outP at this
  simp only [Bool.or_eq_true, decide_eq_true_eq, not_or] at this
  omega
theorem data_ok {w : WinV} {k : Int} (hk : w.kind = 0) (h : winE w k = 0) : DatOk w k := by
  unfold winE at h
  rw [if_pos hk] at h
  unfold dataE at h
  split at h
  · simp at h
  · rename_i h1
    split at h
    · simp at h
    · rename_i h2
      split at h
      · simp at h
      · rename_i h3
        split at h
        · simp at h
        · rename_i h4
          split at h
          · simp at h
          · rename_i h5
            rw [not_or] at h2
            have n1 := namedB_yes h2.2
            have n2 := namedB_yes h4
            rw [Bool.not_eq_true] at h3 h5
            have t1 := (twB_iff _ _).1 h3
            have t2 := (twB_iff _ _).1 h5
            exact ⟨by omega, by omega, by omega, by omega, n1.1, by omega, n1.2, n2.1, n2.2, t1.1, t2.1, t2.2⟩
theorem DatOk.nod {w : WinV} {k : Int} (h : DatOk w k) : (w.fr.l ++ w.to.l).Nodup :=
  List.nodup_append.2 ⟨h.fnd, h.tnd, fun a ha b hb e => h.tf b hb (e ▸ ha)⟩
/-- Spans: none is below 1, together they are the frame. -/
theorem step_ok (l : List WinV) : ∀ (o : List Int) (a b : Int), (∀ x ∈ o, 1 ≤ x) → b + 4 ≤ a → o.sum = b - 3 →
    (∀ x ∈ (l.foldl stepR (o, a, b)).1, 1 ≤ x) ∧ (l.foldl stepR (o, a, b)).2.2 + 4 ≤ (l.foldl stepR (o, a, b)).2.1 ∧ (l.foldl stepR (o, a, b)).1.sum = (l.foldl stepR (o, a, b)).2.2 - 3 := by
  induction l with
  | nil => intro o a b h1 h2 h3; exact ⟨h1, h2, h3⟩
  | cons w l ih =>
    intro o a b h1 h2 h3
    rw [List.foldl_cons]
    unfold stepR
    have hl := w.len_le
    split
    · rename_i hk
      have h6 : w.len = 6 := by
        have hk' : w.kind = 2 := hk
        unfold WinV.len
        rw [if_neg (by omega), if_neg (by omega), if_pos hk']
      refine ih _ _ _ (fun x hx => ?_) ?_ ?_
      · rcases List.mem_append.1 hx with hx | hx
        · exact h1 x hx
        · rw [List.mem_singleton] at hx
          rw [hx]
          show 1 ≤ a + 2 - b
          omega
      · show a + 2 + 4 ≤ a + w.len
        omega
      · rw [List.sum_append]
        show o.sum + [a + 2 - b].sum = a + 2 - 3
        simp only [List.sum_cons, List.sum_nil]
        omega
    · refine ih _ _ _ h1 ?_ h3
      show b + 4 ≤ a + w.len
      omega
theorem spans_ok {v : Int} (hv : 0 ≤ v ∧ v < 2) (l : List WinV) : (∀ x ∈ spansOf v l, 1 ≤ x) ∧ 20 * (spansOf v l).sum = startOf v + 120 + sumT l := by
  have h := step_ok l [] (10 + 2 * v) 3 (fun x hx => by simp at hx) (by omega) (by simp)
  have hf := (fold_all v l).2
  unfold spansOf
  unfold stR at *
  refine ⟨fun x hx => ?_, ?_⟩
  · rcases List.mem_append.1 hx with hx | hx
    · exact h.1 x hx
    · rw [List.mem_singleton] at hx
      rw [hx]
      omega
  · rw [List.sum_append]
    simp only [List.sum_cons, List.sum_nil]
    omega
end
end Go.Proofs.Ytcddhbhdpleppaa.R
/- The law's own example of the validity layer. No conditions. -/
set_option linter.unusedVariables false
set_option linter.unusedSimpArgs false
namespace Go.Proofs.Ytcddhbhdpleppaa.R
open Go Go.RowKit Go.Proofs.Ytcddhbhdpleppaa
set_option maxRecDepth 100000
set_option maxHeartbeats 8000000
theorem tyAllRW08h : type_of% (And.intro (And.intro (And.intro ty_1 (And.intro ty_3 ty_4)) (And.intro ty_38 (And.intro ty_47 ty_48))) (And.intro (And.intro ty_49 (And.intro ty_50 ty_55)) (And.intro (And.intro ty_56 ty_65) (And.intro ty_92 ty_93)))) := (And.intro (And.intro (And.intro ty_1 (And.intro ty_3 ty_4)) (And.intro ty_38 (And.intro ty_47 ty_48))) (And.intro (And.intro ty_49 (And.intro ty_50 ty_55)) (And.intro (And.intro ty_56 ty_65) (And.intro ty_92 ty_93))))
section
variable {W0 : World}
theorem rs_nil (m : Mem) : RS W0 m (.slice none 0 0) 1 0 (i64 []) := ⟨by simp [R.i64], none, 0, rfl, .inl rfl⟩
theorem win_nil {m : Mem} {k b : Int} (h : inI64 k ∧ inI64 b) : WinOk W0 m ⟨k, b, 0, 0, ⟨none, 0, []⟩, ⟨none, 0, []⟩⟩ := ⟨rs_nil m, rs_nil m, by simp, by simp, h.1, h.2, by simp [inI64], by simp [inI64]⟩
theorem winr_nil {k b : Int} : WinR ⟨k, b, 0, 0, ⟨none, 0, []⟩, ⟨none, 0, []⟩⟩ := ⟨fun y hy => by simp at hy, fun y hy => by simp at hy⟩
theorem wins_one {m : Mem} {g : Nat} {k b : Int} (hg : W0.heap.size ≤ g) (o : m g = some (.cells #[.int .i64 k, .int .i64 b, .int .i64 0, .int .i64 0, .slice none 0 0, .slice none 0 0] 56)) (h : inI64 k ∧ inI64 b) :
    WinsOk W0 m ⟨some ⟨g, 0, none⟩, 1, [⟨k, b, 0, 0, ⟨none, 0, []⟩, ⟨none, 0, []⟩⟩]⟩ := ⟨RS.block hg o rfl, fun w hw => by simp at hw; subst hw; exact win_nil h, by simp⟩
theorem wins_none (m : Mem) : WinsOk W0 m ⟨none, 0, []⟩ := ⟨⟨by simp, none, 0, rfl, .inl (by simp)⟩, fun w hw => by simp at hw, by simp⟩
abbrev W8 (k b : Int) : WinV := ⟨k, b, 0, 0, ⟨none, 0, []⟩, ⟨none, 0, []⟩⟩
theorem ck_101 {m : Mem} {g h : Nat} (hg : W0.heap.size ≤ g) (hh : W0.heap.size ≤ h) (o2 : m g = some (.cells #[.int .i64 2, .int .i64 0, .int .i64 0, .int .i64 0, .slice none 0 0, .slice none 0 0] 56)) (o3 : m h = some (.cells #[.int .i64 1, .int .i64 101, .int .i64 0, .int .i64 0, .slice none 0 0, .slice none 0 0] 56)) :
    Ret Try.prog W0 53 #[.agg #[.int .i64 2, .slice (some ⟨g, 0, none⟩) 1 1, .slice (some ⟨h, 0, none⟩) 1 1]] m (.agg #[.int .i64 1, .int .i64 0, .int .i64 3]) :=
  (valid_Check (s := ⟨2, ⟨some ⟨g, 0, none⟩, 1, [W8 2 0]⟩, ⟨some ⟨h, 0, none⟩, 1, [W8 1 101]⟩⟩) ⟨wins_one hg o2 (by simp [inI64]), wins_one hh o3 (by simp [inI64]), fun w hw => by simp at hw; subst hw; exact winr_nil, fun w hw => by simp at hw; subst hw; exact winr_nil⟩).eq (by kernel_rfl)
theorem ck_100 {m : Mem} {g h : Nat} (hg : W0.heap.size ≤ g) (hh : W0.heap.size ≤ h) (o2 : m g = some (.cells #[.int .i64 2, .int .i64 0, .int .i64 0, .int .i64 0, .slice none 0 0, .slice none 0 0] 56)) (o3 : m h = some (.cells #[.int .i64 1, .int .i64 100, .int .i64 0, .int .i64 0, .slice none 0 0, .slice none 0 0] 56)) :
    Ret Try.prog W0 53 #[.agg #[.int .i64 2, .slice (some ⟨g, 0, none⟩) 1 1, .slice (some ⟨h, 0, none⟩) 1 1]] m (.agg #[.int .i64 0, .int .i64 0, .int .i64 0]) :=
  (valid_Check (s := ⟨2, ⟨some ⟨g, 0, none⟩, 1, [W8 2 0]⟩, ⟨some ⟨h, 0, none⟩, 1, [W8 1 100]⟩⟩) ⟨wins_one hg o2 (by simp [inI64]), wins_one hh o3 (by simp [inI64]), fun w hw => by simp at hw; subst hw; exact winr_nil, fun w hw => by simp at hw; subst hw; exact winr_nil⟩).eq (by kernel_rfl)
theorem ck_1 {m : Mem} : Ret Try.prog W0 53 #[.agg #[.int .i64 1, .slice none 0 0, .slice none 0 0]] m (.agg #[.int .i64 0, .int .i64 (-1), .int .i64 2]) :=
  (valid_Check (s := ⟨1, ⟨none, 0, []⟩, ⟨none, 0, []⟩⟩) ⟨wins_none m, wins_none m, fun w hw => by simp at hw, fun w hw => by simp at hw⟩).eq (by kernel_rfl)
theorem one08 {m : Mem} : Ret Try.prog W0 54 #[] m (.bool true) := by
  refine ⟨fun K h => ?_⟩
  refine en_54 (l := []) (by simp [Try.ntmps54]) ?_
  have X : Ext m m := Ext.refl m
  simp (maxSteps := 2000000) only [Try.f54, Option.getD_some, vcCore, yieldT, Int.reduceEq, Int.reduceLT, Int.reduceLE, Int.reduceNe, not_true_eq_false, decide_true, decide_false, add_lit', Nat.zero_add, Nat.mul_one, Int.toNat_natCast, List.getElem?_toArray, List.getElem?_cons_zero, List.getElem?_cons_succ, Option.bind_some, List.map_cons, List.map_nil, List.map_toArray, Array.append_empty, Array.empty_append, List.append_nil, List.nil_append, List.append_toArray, ↓reduceIte, Nat.reduceEqDiff, Nat.reduceAdd, Nat.reduceLeDiff, List.contains_cons, List.contains_nil, Nat.reduceBEq, Bool.or_false, Bool.false_or, Bool.or_true, Bool.true_or, Bool.false_eq_true, Value.cells, List.size_toArray, List.length_cons, List.length_nil, Option.map_some, Option.map_none, Option.isSome_some, Option.isSome_none, Option.isNone_some, Option.isNone_none, true_and, and_true, ne_eq, reduceCtorEq, not_false_eq_true, Bool.not_true, Bool.not_false, tyAllRW08h, then_normal, Int.cast_ofNat_Int, BEq.rfl, bne_self_eq_false, beq_self_eq_true, Bool.and_true, Bool.true_and, Bool.and_false, Bool.false_and, Int.reduceBEq, Int.reduceBNe, Nat.reduceMul, Nat.reduceDiv, Int.reduceToNat, Int.reduceNeg, Int.reduceAdd, Int.reduceSub, Int.reduceMul, ext_lit, Nat.reduceSub, Nat.add_zero, mp2_app, resK_cc, implies_true, imp_self, bb_ft, bb_tf, bb_t, bb_f, bn_t, bn_f, Nat.reduceLT, Mem.set_app, Mem.set_set, Ext_mp1, Ext_two, st_agg, ones_nil, ones_cons, oc_int, oc_bool, oc_str, oc_ptr, oc_sl, oc_map, max_if, min_if, bld_nil, bld_cons, bldStep_some, wr_def, List.take_succ_cons, List.take_zero, List.drop_succ_cons, List.drop_zero, List.cons_append, List.toList_toArray]
  repeat' (first | simp (maxSteps := 2000000) only [vcCore, yieldT, Int.reduceEq, Int.reduceLT, Int.reduceLE, Int.reduceNe, not_true_eq_false, decide_true, decide_false, add_lit', Nat.zero_add, Nat.mul_one, Int.toNat_natCast, List.getElem?_toArray, List.getElem?_cons_zero, List.getElem?_cons_succ, Option.bind_some, List.map_cons, List.map_nil, List.map_toArray, Array.append_empty, Array.empty_append, List.append_nil, List.nil_append, List.append_toArray, ↓reduceIte, Nat.reduceEqDiff, Nat.reduceAdd, Nat.reduceLeDiff, List.contains_cons, List.contains_nil, Nat.reduceBEq, Bool.or_false, Bool.false_or, Bool.or_true, Bool.true_or, Bool.false_eq_true, Value.cells, List.size_toArray, List.length_cons, List.length_nil, Option.map_some, Option.map_none, Option.isSome_some, Option.isSome_none, Option.isNone_some, Option.isNone_none, true_and, and_true, ne_eq, reduceCtorEq, not_false_eq_true, Bool.not_true, Bool.not_false, tyAllRW08h, then_normal, Int.cast_ofNat_Int, BEq.rfl, bne_self_eq_false, beq_self_eq_true, Bool.and_true, Bool.true_and, Bool.and_false, Bool.false_and, Int.reduceBEq, Int.reduceBNe, Nat.reduceMul, Nat.reduceDiv, Int.reduceToNat, Int.reduceNeg, Int.reduceAdd, Int.reduceSub, Int.reduceMul, ext_lit, Nat.reduceSub, Nat.add_zero, mp2_app, resK_cc, implies_true, imp_self, bb_ft, bb_tf, bb_t, bb_f, bn_t, bn_f, Nat.reduceLT, Mem.set_app, Mem.set_set, Ext_mp1, Ext_two, st_agg, ones_nil, ones_cons, oc_int, oc_bool, oc_str, oc_ptr, oc_sl, oc_map, max_if, min_if, bld_nil, bld_cons, bldStep_some, wr_def, List.take_succ_cons, List.take_zero, List.drop_succ_cons, List.drop_zero, List.cons_append, List.toList_toArray, *] | (rw [mset_eq b1]; generalize hM : mset _ b1 _ = mS; (try replace X := set_X hM X n1); (first | replace KP := KP_self hM KP | replace KP := KP_set hM KP n1 | skip); (try (replace o2 := set_o hM o2 d21; replace c2 := blk_facts hb2 o2)); (try (replace o3 := set_o hM o3 d31; replace c3 := blk_facts hb3 o3)); (try (replace o4 := set_o hM o4 d41; replace c4 := blk_facts hb4 o4)); (try (replace o5 := set_o hM o5 d51; replace c5 := blk_facts hb5 o5)); replace o1 := set_same hM; clear hM; replace c1 := blk_facts hb1 o1) | (rw [mset_eq b2]; generalize hM : mset _ b2 _ = mS; (try replace X := set_X hM X n2); (first | replace KP := KP_self hM KP | replace KP := KP_set hM KP n2 | skip); (try (replace o1 := set_o hM o1 d12; replace c1 := blk_facts hb1 o1)); (try (replace o3 := set_o hM o3 d32; replace c3 := blk_facts hb3 o3)); (try (replace o4 := set_o hM o4 d42; replace c4 := blk_facts hb4 o4)); (try (replace o5 := set_o hM o5 d52; replace c5 := blk_facts hb5 o5)); replace o2 := set_same hM; clear hM; replace c2 := blk_facts hb2 o2) | (rw [mset_eq b3]; generalize hM : mset _ b3 _ = mS; (try replace X := set_X hM X n3); (first | replace KP := KP_self hM KP | replace KP := KP_set hM KP n3 | skip); (try (replace o1 := set_o hM o1 d13; replace c1 := blk_facts hb1 o1)); (try (replace o2 := set_o hM o2 d23; replace c2 := blk_facts hb2 o2)); (try (replace o4 := set_o hM o4 d43; replace c4 := blk_facts hb4 o4)); (try (replace o5 := set_o hM o5 d53; replace c5 := blk_facts hb5 o5)); replace o3 := set_same hM; clear hM; replace c3 := blk_facts hb3 o3) | (rw [mset_eq b4]; generalize hM : mset _ b4 _ = mS; (try replace X := set_X hM X n4); (first | replace KP := KP_self hM KP | replace KP := KP_set hM KP n4 | skip); (try (replace o1 := set_o hM o1 d14; replace c1 := blk_facts hb1 o1)); (try (replace o2 := set_o hM o2 d24; replace c2 := blk_facts hb2 o2)); (try (replace o3 := set_o hM o3 d34; replace c3 := blk_facts hb3 o3)); (try (replace o5 := set_o hM o5 d54; replace c5 := blk_facts hb5 o5)); replace o4 := set_same hM; clear hM; replace c4 := blk_facts hb4 o4) | (rw [mset_eq b5]; generalize hM : mset _ b5 _ = mS; (try replace X := set_X hM X n5); (first | replace KP := KP_self hM KP | replace KP := KP_set hM KP n5 | skip); (try (replace o1 := set_o hM o1 d15; replace c1 := blk_facts hb1 o1)); (try (replace o2 := set_o hM o2 d25; replace c2 := blk_facts hb2 o2)); (try (replace o3 := set_o hM o3 d35; replace c3 := blk_facts hb3 o3)); (try (replace o4 := set_o hM o4 d45; replace c4 := blk_facts hb4 o4)); replace o5 := set_same hM; clear hM; replace c5 := blk_facts hb5 o5) | ((first | (with_reducible refine Ret.use (ck_101 hb2 hb3 o2 o3) fun m1 e1 => ?_)); (try replace X := X.trans e1); (try replace P3 := P3.ext e1); (try (replace o1 := e1 _ _ o1; replace c1 := blk_facts hb1 o1)); (try (replace o2 := e1 _ _ o2; replace c2 := blk_facts hb2 o2)); (try (replace o3 := e1 _ _ o3; replace c3 := blk_facts hb3 o3)); (try (replace o4 := e1 _ _ o4; replace c4 := blk_facts hb4 o4)); (try (replace o5 := e1 _ _ o5; replace c5 := blk_facts hb5 o5))) | (with_reducible refine Ret.q (fun m1 e1 => ck_101 hb2 hb3 o2 o3) ?_) | (with_reducible refine Ret.q0 (fun m1 e1 => ck_101 hb2 hb3 o2 o3) ?_) | ((first | ((with_reducible refine newK_init ?_ ?_ ?_ ?_); (focus (intro b; simp only [ev_tmp, ev_const, upd_app, reduceCtorEq, Nat.reduceEqDiff, Nat.reduceAdd, ↓reduceIte, Value.cells, List.size_toArray, List.length_cons, List.length_nil, st_int, st_bool, st_string, st_pointer, st_slice, st_map, st_agg, ones_nil, ones_cons, oc_int, oc_bool, oc_str, oc_ptr, oc_sl, oc_map, Bool.and_true, tyAllRW08h, Option.map_some]; done)); (focus (simp only [ev_tmp, ev_const, upd_app, reduceCtorEq, Nat.reduceEqDiff, Nat.reduceAdd, ↓reduceIte, Value.cells, List.size_toArray, List.length_cons, List.length_nil, st_int, st_bool, st_string, st_pointer, st_slice, st_map, st_agg, ones_nil, ones_cons, oc_int, oc_bool, oc_str, oc_ptr, oc_sl, oc_map, Bool.and_true, tyAllRW08h, Option.map_some]; done)); (focus (intro b; simp only [ev_tmp, ev_const, upd_app, reduceCtorEq, Nat.reduceEqDiff, Nat.reduceAdd, ↓reduceIte, Value.cells, List.size_toArray, List.length_cons, List.length_nil, st_int, st_bool, st_string, st_pointer, st_slice, st_map, st_agg, ones_nil, ones_cons, oc_int, oc_bool, oc_str, oc_ptr, oc_sl, oc_map, Bool.and_true, tyAllRW08h, Option.map_some]; done))) | ((with_reducible refine newK.id ?_); refine newK_intro ?_) | ((with_reducible refine RunA.id ?_); (first | with_reducible refine rbuild1 sl_38 ze_3 ?_ ?_ ?_ | with_reducible refine rbuild1 sl_47 ze_56 ?_ ?_ ?_); (focus (simp only [Value.cells, List.size_toArray, List.length_cons, List.length_nil]; done)); (focus decide)) | ((first | with_reducible refine bG1 sl_38 ze_3 ?_ ?_ ?_ | with_reducible refine bG1 sl_47 ze_56 ?_ ?_ ?_); (focus (simp only [Value.cells, List.size_toArray, List.length_cons, List.length_nil]; done)); (focus decide)) | ((with_reducible refine RunA.id ?_); (first | with_reducible refine rbuild2 sl_38 ze_3 rfl rfl ?_ | with_reducible refine rbuild2 sl_47 ze_56 rfl rfl ?_)) | (first | with_reducible refine bG2 sl_38 ze_3 rfl rfl ?_ | with_reducible refine bG2 sl_47 ze_56 rfl rfl ?_)); (first | (have := o4; intro b5 m1 hb5 n5 e1 o5; (try (have d51 := ne_of o1 n5; have d15 := d51.symm)); (try (have d52 := ne_of o2 n5; have d25 := d52.symm)); (try (have d53 := ne_of o3 n5; have d35 := d53.symm)); (try (have d54 := ne_of o4 n5; have d45 := d54.symm)); replace n5 := none_of X n5; (try simp only [ev_tmp, ev_const, upd_app, reduceCtorEq, Nat.reduceEqDiff, Nat.reduceAdd, ↓reduceIte, Value.cells, List.size_toArray, List.length_cons, List.length_nil, st_int, st_bool, st_string, st_pointer, st_slice, st_map, st_agg, ones_nil, ones_cons, oc_int, oc_bool, oc_str, oc_ptr, oc_sl, oc_map, Bool.and_true, tyAllRW08h, Option.map_some] at o5)) | (have := o3; intro b4 m1 hb4 n4 e1 o4; (try (have d41 := ne_of o1 n4; have d14 := d41.symm)); (try (have d42 := ne_of o2 n4; have d24 := d42.symm)); (try (have d43 := ne_of o3 n4; have d34 := d43.symm)); replace n4 := none_of X n4; (try simp only [ev_tmp, ev_const, upd_app, reduceCtorEq, Nat.reduceEqDiff, Nat.reduceAdd, ↓reduceIte, Value.cells, List.size_toArray, List.length_cons, List.length_nil, st_int, st_bool, st_string, st_pointer, st_slice, st_map, st_agg, ones_nil, ones_cons, oc_int, oc_bool, oc_str, oc_ptr, oc_sl, oc_map, Bool.and_true, tyAllRW08h, Option.map_some] at o4)) | (have := o2; intro b3 m1 hb3 n3 e1 o3; (try (have d31 := ne_of o1 n3; have d13 := d31.symm)); (try (have d32 := ne_of o2 n3; have d23 := d32.symm)); replace n3 := none_of X n3; (try simp only [ev_tmp, ev_const, upd_app, reduceCtorEq, Nat.reduceEqDiff, Nat.reduceAdd, ↓reduceIte, Value.cells, List.size_toArray, List.length_cons, List.length_nil, st_int, st_bool, st_string, st_pointer, st_slice, st_map, st_agg, ones_nil, ones_cons, oc_int, oc_bool, oc_str, oc_ptr, oc_sl, oc_map, Bool.and_true, tyAllRW08h, Option.map_some] at o3)) | (have := o1; intro b2 m1 hb2 n2 e1 o2; (try (have d21 := ne_of o1 n2; have d12 := d21.symm)); replace n2 := none_of X n2; (try simp only [ev_tmp, ev_const, upd_app, reduceCtorEq, Nat.reduceEqDiff, Nat.reduceAdd, ↓reduceIte, Value.cells, List.size_toArray, List.length_cons, List.length_nil, st_int, st_bool, st_string, st_pointer, st_slice, st_map, st_agg, ones_nil, ones_cons, oc_int, oc_bool, oc_str, oc_ptr, oc_sl, oc_map, Bool.and_true, tyAllRW08h, Option.map_some] at o2)) | (intro b1 m1 hb1 n1 e1 o1; replace n1 := none_of X n1; (try simp only [ev_tmp, ev_const, upd_app, reduceCtorEq, Nat.reduceEqDiff, Nat.reduceAdd, ↓reduceIte, Value.cells, List.size_toArray, List.length_cons, List.length_nil, st_int, st_bool, st_string, st_pointer, st_slice, st_map, st_agg, ones_nil, ones_cons, oc_int, oc_bool, oc_str, oc_ptr, oc_sl, oc_map, Bool.and_true, tyAllRW08h, Option.map_some] at o1))); (try replace X := X.trans e1); (try replace P3 := P3.ext e1); (try (replace o1 := e1 _ _ o1; replace c1 := blk_facts hb1 o1)); (try (replace o2 := e1 _ _ o2; replace c2 := blk_facts hb2 o2)); (try (replace o3 := e1 _ _ o3; replace c3 := blk_facts hb3 o3)); (try (replace o4 := e1 _ _ o4; replace c4 := blk_facts hb4 o4)); (try (replace o5 := e1 _ _ o5; replace c5 := blk_facts hb5 o5)); (try have c1 := blk_facts hb1 o1); (try have c2 := blk_facts hb2 o2); (try have c3 := blk_facts hb3 o3); (try have c4 := blk_facts hb4 o4); (try have c5 := blk_facts hb5 o5)) | ((first | with_reducible refine rsl_hZ sl_38 ?_ ?_ ?_ | with_reducible refine rsl_hZ sl_47 ?_ ?_ ?_); (iterate 2 (focus (first | omega | (simp only [*] <;> omega))))) | ((first | with_reducible refine rsl_lZ sl_38 ?_ ?_ ?_ | with_reducible refine rsl_lZ sl_47 ?_ ?_ ?_); (iterate 2 (focus (first | omega | (simp only [*] <;> omega))))) | ((with_reducible refine CodeA.id ?_); (first | fail)) | ((with_reducible refine And.intro ?_ ?_); (focus omega)) | with_reducible refine cK_both _ _ _ _ _ _ (fun hc => ?_) (fun hc => ?_) | ((with_reducible refine gO_both _ _ (fun hc => ?_) (fun hc => ?_)) <;> (try simp only [Bool.not_true, Bool.not_false] at hc)) | ((with_reducible refine gH_both _ _ (fun hc => ?_) (fun hc => ?_)) <;> (try simp only [Bool.not_true, Bool.not_false] at hc)) | with_reducible refine pickK_both _ (fun hc => ?_) (fun hc => ?_))
  refine agg_eql (ks := [.i .i64, .i .i64, .i .i64]) (by kernel_rfl) rfl rfl fun r hr => ?_
  obtain rfl : r = true := hr.2 rfl
  clear hr
  repeat' (first | simp (maxSteps := 2000000) only [vcCore, yieldT, Int.reduceEq, Int.reduceLT, Int.reduceLE, Int.reduceNe, not_true_eq_false, decide_true, decide_false, add_lit', Nat.zero_add, Nat.mul_one, Int.toNat_natCast, List.getElem?_toArray, List.getElem?_cons_zero, List.getElem?_cons_succ, Option.bind_some, List.map_cons, List.map_nil, List.map_toArray, Array.append_empty, Array.empty_append, List.append_nil, List.nil_append, List.append_toArray, ↓reduceIte, Nat.reduceEqDiff, Nat.reduceAdd, Nat.reduceLeDiff, List.contains_cons, List.contains_nil, Nat.reduceBEq, Bool.or_false, Bool.false_or, Bool.or_true, Bool.true_or, Bool.false_eq_true, Value.cells, List.size_toArray, List.length_cons, List.length_nil, Option.map_some, Option.map_none, Option.isSome_some, Option.isSome_none, Option.isNone_some, Option.isNone_none, true_and, and_true, ne_eq, reduceCtorEq, not_false_eq_true, Bool.not_true, Bool.not_false, tyAllRW08h, then_normal, Int.cast_ofNat_Int, BEq.rfl, bne_self_eq_false, beq_self_eq_true, Bool.and_true, Bool.true_and, Bool.and_false, Bool.false_and, Int.reduceBEq, Int.reduceBNe, Nat.reduceMul, Nat.reduceDiv, Int.reduceToNat, Int.reduceNeg, Int.reduceAdd, Int.reduceSub, Int.reduceMul, ext_lit, Nat.reduceSub, Nat.add_zero, mp2_app, resK_cc, implies_true, imp_self, bb_ft, bb_tf, bb_t, bb_f, bn_t, bn_f, Nat.reduceLT, Mem.set_app, Mem.set_set, Ext_mp1, Ext_two, st_agg, ones_nil, ones_cons, oc_int, oc_bool, oc_str, oc_ptr, oc_sl, oc_map, max_if, min_if, bld_nil, bld_cons, bldStep_some, wr_def, List.take_succ_cons, List.take_zero, List.drop_succ_cons, List.drop_zero, List.cons_append, List.toList_toArray, *] | (rw [mset_eq b1]; generalize hM : mset _ b1 _ = mS; (try replace X := set_X hM X n1); (first | replace KP := KP_self hM KP | replace KP := KP_set hM KP n1 | skip); (try (replace o2 := set_o hM o2 d21; replace c2 := blk_facts hb2 o2)); (try (replace o3 := set_o hM o3 d31; replace c3 := blk_facts hb3 o3)); (try (replace o4 := set_o hM o4 d41; replace c4 := blk_facts hb4 o4)); (try (replace o5 := set_o hM o5 d51; replace c5 := blk_facts hb5 o5)); replace o1 := set_same hM; clear hM; replace c1 := blk_facts hb1 o1) | (rw [mset_eq b2]; generalize hM : mset _ b2 _ = mS; (try replace X := set_X hM X n2); (first | replace KP := KP_self hM KP | replace KP := KP_set hM KP n2 | skip); (try (replace o1 := set_o hM o1 d12; replace c1 := blk_facts hb1 o1)); (try (replace o3 := set_o hM o3 d32; replace c3 := blk_facts hb3 o3)); (try (replace o4 := set_o hM o4 d42; replace c4 := blk_facts hb4 o4)); (try (replace o5 := set_o hM o5 d52; replace c5 := blk_facts hb5 o5)); replace o2 := set_same hM; clear hM; replace c2 := blk_facts hb2 o2) | (rw [mset_eq b3]; generalize hM : mset _ b3 _ = mS; (try replace X := set_X hM X n3); (first | replace KP := KP_self hM KP | replace KP := KP_set hM KP n3 | skip); (try (replace o1 := set_o hM o1 d13; replace c1 := blk_facts hb1 o1)); (try (replace o2 := set_o hM o2 d23; replace c2 := blk_facts hb2 o2)); (try (replace o4 := set_o hM o4 d43; replace c4 := blk_facts hb4 o4)); (try (replace o5 := set_o hM o5 d53; replace c5 := blk_facts hb5 o5)); replace o3 := set_same hM; clear hM; replace c3 := blk_facts hb3 o3) | (rw [mset_eq b4]; generalize hM : mset _ b4 _ = mS; (try replace X := set_X hM X n4); (first | replace KP := KP_self hM KP | replace KP := KP_set hM KP n4 | skip); (try (replace o1 := set_o hM o1 d14; replace c1 := blk_facts hb1 o1)); (try (replace o2 := set_o hM o2 d24; replace c2 := blk_facts hb2 o2)); (try (replace o3 := set_o hM o3 d34; replace c3 := blk_facts hb3 o3)); (try (replace o5 := set_o hM o5 d54; replace c5 := blk_facts hb5 o5)); replace o4 := set_same hM; clear hM; replace c4 := blk_facts hb4 o4) | (rw [mset_eq b5]; generalize hM : mset _ b5 _ = mS; (try replace X := set_X hM X n5); (first | replace KP := KP_self hM KP | replace KP := KP_set hM KP n5 | skip); (try (replace o1 := set_o hM o1 d15; replace c1 := blk_facts hb1 o1)); (try (replace o2 := set_o hM o2 d25; replace c2 := blk_facts hb2 o2)); (try (replace o3 := set_o hM o3 d35; replace c3 := blk_facts hb3 o3)); (try (replace o4 := set_o hM o4 d45; replace c4 := blk_facts hb4 o4)); replace o5 := set_same hM; clear hM; replace c5 := blk_facts hb5 o5) | ((first | (with_reducible refine Ret.use (ck_100 hb2 hb3 o2 o3) fun m1 e1 => ?_)); (try replace X := X.trans e1); (try replace P3 := P3.ext e1); (try (replace o1 := e1 _ _ o1; replace c1 := blk_facts hb1 o1)); (try (replace o2 := e1 _ _ o2; replace c2 := blk_facts hb2 o2)); (try (replace o3 := e1 _ _ o3; replace c3 := blk_facts hb3 o3)); (try (replace o4 := e1 _ _ o4; replace c4 := blk_facts hb4 o4)); (try (replace o5 := e1 _ _ o5; replace c5 := blk_facts hb5 o5))) | (with_reducible refine Ret.q (fun m1 e1 => ck_100 hb2 hb3 o2 o3) ?_) | (with_reducible refine Ret.q0 (fun m1 e1 => ck_100 hb2 hb3 o2 o3) ?_) | ((first | ((with_reducible refine newK_init ?_ ?_ ?_ ?_); (focus (intro b; simp only [ev_tmp, ev_const, upd_app, reduceCtorEq, Nat.reduceEqDiff, Nat.reduceAdd, ↓reduceIte, Value.cells, List.size_toArray, List.length_cons, List.length_nil, st_int, st_bool, st_string, st_pointer, st_slice, st_map, st_agg, ones_nil, ones_cons, oc_int, oc_bool, oc_str, oc_ptr, oc_sl, oc_map, Bool.and_true, tyAllRW08h, Option.map_some]; done)); (focus (simp only [ev_tmp, ev_const, upd_app, reduceCtorEq, Nat.reduceEqDiff, Nat.reduceAdd, ↓reduceIte, Value.cells, List.size_toArray, List.length_cons, List.length_nil, st_int, st_bool, st_string, st_pointer, st_slice, st_map, st_agg, ones_nil, ones_cons, oc_int, oc_bool, oc_str, oc_ptr, oc_sl, oc_map, Bool.and_true, tyAllRW08h, Option.map_some]; done)); (focus (intro b; simp only [ev_tmp, ev_const, upd_app, reduceCtorEq, Nat.reduceEqDiff, Nat.reduceAdd, ↓reduceIte, Value.cells, List.size_toArray, List.length_cons, List.length_nil, st_int, st_bool, st_string, st_pointer, st_slice, st_map, st_agg, ones_nil, ones_cons, oc_int, oc_bool, oc_str, oc_ptr, oc_sl, oc_map, Bool.and_true, tyAllRW08h, Option.map_some]; done))) | ((with_reducible refine newK.id ?_); refine newK_intro ?_) | ((with_reducible refine RunA.id ?_); (first | with_reducible refine rbuild1 sl_38 ze_3 ?_ ?_ ?_ | with_reducible refine rbuild1 sl_47 ze_56 ?_ ?_ ?_); (focus (simp only [Value.cells, List.size_toArray, List.length_cons, List.length_nil]; done)); (focus decide)) | ((first | with_reducible refine bG1 sl_38 ze_3 ?_ ?_ ?_ | with_reducible refine bG1 sl_47 ze_56 ?_ ?_ ?_); (focus (simp only [Value.cells, List.size_toArray, List.length_cons, List.length_nil]; done)); (focus decide)) | ((with_reducible refine RunA.id ?_); (first | with_reducible refine rbuild2 sl_38 ze_3 rfl rfl ?_ | with_reducible refine rbuild2 sl_47 ze_56 rfl rfl ?_)) | (first | with_reducible refine bG2 sl_38 ze_3 rfl rfl ?_ | with_reducible refine bG2 sl_47 ze_56 rfl rfl ?_)); (first | (have := o4; intro b5 m1 hb5 n5 e1 o5; (try (have d51 := ne_of o1 n5; have d15 := d51.symm)); (try (have d52 := ne_of o2 n5; have d25 := d52.symm)); (try (have d53 := ne_of o3 n5; have d35 := d53.symm)); (try (have d54 := ne_of o4 n5; have d45 := d54.symm)); replace n5 := none_of X n5; (try simp only [ev_tmp, ev_const, upd_app, reduceCtorEq, Nat.reduceEqDiff, Nat.reduceAdd, ↓reduceIte, Value.cells, List.size_toArray, List.length_cons, List.length_nil, st_int, st_bool, st_string, st_pointer, st_slice, st_map, st_agg, ones_nil, ones_cons, oc_int, oc_bool, oc_str, oc_ptr, oc_sl, oc_map, Bool.and_true, tyAllRW08h, Option.map_some] at o5)) | (have := o3; intro b4 m1 hb4 n4 e1 o4; (try (have d41 := ne_of o1 n4; have d14 := d41.symm)); (try (have d42 := ne_of o2 n4; have d24 := d42.symm)); (try (have d43 := ne_of o3 n4; have d34 := d43.symm)); replace n4 := none_of X n4; (try simp only [ev_tmp, ev_const, upd_app, reduceCtorEq, Nat.reduceEqDiff, Nat.reduceAdd, ↓reduceIte, Value.cells, List.size_toArray, List.length_cons, List.length_nil, st_int, st_bool, st_string, st_pointer, st_slice, st_map, st_agg, ones_nil, ones_cons, oc_int, oc_bool, oc_str, oc_ptr, oc_sl, oc_map, Bool.and_true, tyAllRW08h, Option.map_some] at o4)) | (have := o2; intro b3 m1 hb3 n3 e1 o3; (try (have d31 := ne_of o1 n3; have d13 := d31.symm)); (try (have d32 := ne_of o2 n3; have d23 := d32.symm)); replace n3 := none_of X n3; (try simp only [ev_tmp, ev_const, upd_app, reduceCtorEq, Nat.reduceEqDiff, Nat.reduceAdd, ↓reduceIte, Value.cells, List.size_toArray, List.length_cons, List.length_nil, st_int, st_bool, st_string, st_pointer, st_slice, st_map, st_agg, ones_nil, ones_cons, oc_int, oc_bool, oc_str, oc_ptr, oc_sl, oc_map, Bool.and_true, tyAllRW08h, Option.map_some] at o3)) | (have := o1; intro b2 m1 hb2 n2 e1 o2; (try (have d21 := ne_of o1 n2; have d12 := d21.symm)); replace n2 := none_of X n2; (try simp only [ev_tmp, ev_const, upd_app, reduceCtorEq, Nat.reduceEqDiff, Nat.reduceAdd, ↓reduceIte, Value.cells, List.size_toArray, List.length_cons, List.length_nil, st_int, st_bool, st_string, st_pointer, st_slice, st_map, st_agg, ones_nil, ones_cons, oc_int, oc_bool, oc_str, oc_ptr, oc_sl, oc_map, Bool.and_true, tyAllRW08h, Option.map_some] at o2)) | (intro b1 m1 hb1 n1 e1 o1; replace n1 := none_of X n1; (try simp only [ev_tmp, ev_const, upd_app, reduceCtorEq, Nat.reduceEqDiff, Nat.reduceAdd, ↓reduceIte, Value.cells, List.size_toArray, List.length_cons, List.length_nil, st_int, st_bool, st_string, st_pointer, st_slice, st_map, st_agg, ones_nil, ones_cons, oc_int, oc_bool, oc_str, oc_ptr, oc_sl, oc_map, Bool.and_true, tyAllRW08h, Option.map_some] at o1))); (try replace X := X.trans e1); (try replace P3 := P3.ext e1); (try (replace o1 := e1 _ _ o1; replace c1 := blk_facts hb1 o1)); (try (replace o2 := e1 _ _ o2; replace c2 := blk_facts hb2 o2)); (try (replace o3 := e1 _ _ o3; replace c3 := blk_facts hb3 o3)); (try (replace o4 := e1 _ _ o4; replace c4 := blk_facts hb4 o4)); (try (replace o5 := e1 _ _ o5; replace c5 := blk_facts hb5 o5)); (try have c1 := blk_facts hb1 o1); (try have c2 := blk_facts hb2 o2); (try have c3 := blk_facts hb3 o3); (try have c4 := blk_facts hb4 o4); (try have c5 := blk_facts hb5 o5)) | ((first | with_reducible refine rsl_hZ sl_38 ?_ ?_ ?_ | with_reducible refine rsl_hZ sl_47 ?_ ?_ ?_); (iterate 2 (focus (first | omega | (simp only [*] <;> omega))))) | ((first | with_reducible refine rsl_lZ sl_38 ?_ ?_ ?_ | with_reducible refine rsl_lZ sl_47 ?_ ?_ ?_); (iterate 2 (focus (first | omega | (simp only [*] <;> omega))))) | ((with_reducible refine CodeA.id ?_); (first | fail)) | ((with_reducible refine And.intro ?_ ?_); (focus omega)) | with_reducible refine cK_both _ _ _ _ _ _ (fun hc => ?_) (fun hc => ?_) | ((with_reducible refine gO_both _ _ (fun hc => ?_) (fun hc => ?_)) <;> (try simp only [Bool.not_true, Bool.not_false] at hc)) | ((with_reducible refine gH_both _ _ (fun hc => ?_) (fun hc => ?_)) <;> (try simp only [Bool.not_true, Bool.not_false] at hc)) | with_reducible refine pickK_both _ (fun hc => ?_) (fun hc => ?_))
  refine agg_eql (ks := [.i .i64, .i .i64, .i .i64]) (by kernel_rfl) rfl rfl fun r hr => ?_
  obtain rfl : r = true := hr.2 rfl
  clear hr
  repeat' (first | simp (maxSteps := 2000000) only [vcCore, yieldT, Int.reduceEq, Int.reduceLT, Int.reduceLE, Int.reduceNe, not_true_eq_false, decide_true, decide_false, add_lit', Nat.zero_add, Nat.mul_one, Int.toNat_natCast, List.getElem?_toArray, List.getElem?_cons_zero, List.getElem?_cons_succ, Option.bind_some, List.map_cons, List.map_nil, List.map_toArray, Array.append_empty, Array.empty_append, List.append_nil, List.nil_append, List.append_toArray, ↓reduceIte, Nat.reduceEqDiff, Nat.reduceAdd, Nat.reduceLeDiff, List.contains_cons, List.contains_nil, Nat.reduceBEq, Bool.or_false, Bool.false_or, Bool.or_true, Bool.true_or, Bool.false_eq_true, Value.cells, List.size_toArray, List.length_cons, List.length_nil, Option.map_some, Option.map_none, Option.isSome_some, Option.isSome_none, Option.isNone_some, Option.isNone_none, true_and, and_true, ne_eq, reduceCtorEq, not_false_eq_true, Bool.not_true, Bool.not_false, tyAllRW08h, then_normal, Int.cast_ofNat_Int, BEq.rfl, bne_self_eq_false, beq_self_eq_true, Bool.and_true, Bool.true_and, Bool.and_false, Bool.false_and, Int.reduceBEq, Int.reduceBNe, Nat.reduceMul, Nat.reduceDiv, Int.reduceToNat, Int.reduceNeg, Int.reduceAdd, Int.reduceSub, Int.reduceMul, ext_lit, Nat.reduceSub, Nat.add_zero, mp2_app, resK_cc, implies_true, imp_self, bb_ft, bb_tf, bb_t, bb_f, bn_t, bn_f, Nat.reduceLT, Mem.set_app, Mem.set_set, Ext_mp1, Ext_two, st_agg, ones_nil, ones_cons, oc_int, oc_bool, oc_str, oc_ptr, oc_sl, oc_map, max_if, min_if, bld_nil, bld_cons, bldStep_some, wr_def, List.take_succ_cons, List.take_zero, List.drop_succ_cons, List.drop_zero, List.cons_append, List.toList_toArray, *] | (rw [mset_eq b1]; generalize hM : mset _ b1 _ = mS; (try replace X := set_X hM X n1); (first | replace KP := KP_self hM KP | replace KP := KP_set hM KP n1 | skip); (try (replace o2 := set_o hM o2 d21; replace c2 := blk_facts hb2 o2)); (try (replace o3 := set_o hM o3 d31; replace c3 := blk_facts hb3 o3)); (try (replace o4 := set_o hM o4 d41; replace c4 := blk_facts hb4 o4)); (try (replace o5 := set_o hM o5 d51; replace c5 := blk_facts hb5 o5)); replace o1 := set_same hM; clear hM; replace c1 := blk_facts hb1 o1) | (rw [mset_eq b2]; generalize hM : mset _ b2 _ = mS; (try replace X := set_X hM X n2); (first | replace KP := KP_self hM KP | replace KP := KP_set hM KP n2 | skip); (try (replace o1 := set_o hM o1 d12; replace c1 := blk_facts hb1 o1)); (try (replace o3 := set_o hM o3 d32; replace c3 := blk_facts hb3 o3)); (try (replace o4 := set_o hM o4 d42; replace c4 := blk_facts hb4 o4)); (try (replace o5 := set_o hM o5 d52; replace c5 := blk_facts hb5 o5)); replace o2 := set_same hM; clear hM; replace c2 := blk_facts hb2 o2) | (rw [mset_eq b3]; generalize hM : mset _ b3 _ = mS; (try replace X := set_X hM X n3); (first | replace KP := KP_self hM KP | replace KP := KP_set hM KP n3 | skip); (try (replace o1 := set_o hM o1 d13; replace c1 := blk_facts hb1 o1)); (try (replace o2 := set_o hM o2 d23; replace c2 := blk_facts hb2 o2)); (try (replace o4 := set_o hM o4 d43; replace c4 := blk_facts hb4 o4)); (try (replace o5 := set_o hM o5 d53; replace c5 := blk_facts hb5 o5)); replace o3 := set_same hM; clear hM; replace c3 := blk_facts hb3 o3) | (rw [mset_eq b4]; generalize hM : mset _ b4 _ = mS; (try replace X := set_X hM X n4); (first | replace KP := KP_self hM KP | replace KP := KP_set hM KP n4 | skip); (try (replace o1 := set_o hM o1 d14; replace c1 := blk_facts hb1 o1)); (try (replace o2 := set_o hM o2 d24; replace c2 := blk_facts hb2 o2)); (try (replace o3 := set_o hM o3 d34; replace c3 := blk_facts hb3 o3)); (try (replace o5 := set_o hM o5 d54; replace c5 := blk_facts hb5 o5)); replace o4 := set_same hM; clear hM; replace c4 := blk_facts hb4 o4) | (rw [mset_eq b5]; generalize hM : mset _ b5 _ = mS; (try replace X := set_X hM X n5); (first | replace KP := KP_self hM KP | replace KP := KP_set hM KP n5 | skip); (try (replace o1 := set_o hM o1 d15; replace c1 := blk_facts hb1 o1)); (try (replace o2 := set_o hM o2 d25; replace c2 := blk_facts hb2 o2)); (try (replace o3 := set_o hM o3 d35; replace c3 := blk_facts hb3 o3)); (try (replace o4 := set_o hM o4 d45; replace c4 := blk_facts hb4 o4)); replace o5 := set_same hM; clear hM; replace c5 := blk_facts hb5 o5) | ((first | (with_reducible refine Ret.use (ck_1) fun m1 e1 => ?_)); (try replace X := X.trans e1); (try replace P3 := P3.ext e1); (try (replace o1 := e1 _ _ o1; replace c1 := blk_facts hb1 o1)); (try (replace o2 := e1 _ _ o2; replace c2 := blk_facts hb2 o2)); (try (replace o3 := e1 _ _ o3; replace c3 := blk_facts hb3 o3)); (try (replace o4 := e1 _ _ o4; replace c4 := blk_facts hb4 o4)); (try (replace o5 := e1 _ _ o5; replace c5 := blk_facts hb5 o5))) | (with_reducible refine Ret.q (fun m1 e1 => ck_1) ?_) | (with_reducible refine Ret.q0 (fun m1 e1 => ck_1) ?_) | ((first | ((with_reducible refine newK_init ?_ ?_ ?_ ?_); (focus (intro b; simp only [ev_tmp, ev_const, upd_app, reduceCtorEq, Nat.reduceEqDiff, Nat.reduceAdd, ↓reduceIte, Value.cells, List.size_toArray, List.length_cons, List.length_nil, st_int, st_bool, st_string, st_pointer, st_slice, st_map, st_agg, ones_nil, ones_cons, oc_int, oc_bool, oc_str, oc_ptr, oc_sl, oc_map, Bool.and_true, tyAllRW08h, Option.map_some]; done)); (focus (simp only [ev_tmp, ev_const, upd_app, reduceCtorEq, Nat.reduceEqDiff, Nat.reduceAdd, ↓reduceIte, Value.cells, List.size_toArray, List.length_cons, List.length_nil, st_int, st_bool, st_string, st_pointer, st_slice, st_map, st_agg, ones_nil, ones_cons, oc_int, oc_bool, oc_str, oc_ptr, oc_sl, oc_map, Bool.and_true, tyAllRW08h, Option.map_some]; done)); (focus (intro b; simp only [ev_tmp, ev_const, upd_app, reduceCtorEq, Nat.reduceEqDiff, Nat.reduceAdd, ↓reduceIte, Value.cells, List.size_toArray, List.length_cons, List.length_nil, st_int, st_bool, st_string, st_pointer, st_slice, st_map, st_agg, ones_nil, ones_cons, oc_int, oc_bool, oc_str, oc_ptr, oc_sl, oc_map, Bool.and_true, tyAllRW08h, Option.map_some]; done))) | ((with_reducible refine newK.id ?_); refine newK_intro ?_) | ((with_reducible refine RunA.id ?_); (first | with_reducible refine rbuild1 sl_38 ze_3 ?_ ?_ ?_ | with_reducible refine rbuild1 sl_47 ze_56 ?_ ?_ ?_); (focus (simp only [Value.cells, List.size_toArray, List.length_cons, List.length_nil]; done)); (focus decide)) | ((first | with_reducible refine bG1 sl_38 ze_3 ?_ ?_ ?_ | with_reducible refine bG1 sl_47 ze_56 ?_ ?_ ?_); (focus (simp only [Value.cells, List.size_toArray, List.length_cons, List.length_nil]; done)); (focus decide)) | ((with_reducible refine RunA.id ?_); (first | with_reducible refine rbuild2 sl_38 ze_3 rfl rfl ?_ | with_reducible refine rbuild2 sl_47 ze_56 rfl rfl ?_)) | (first | with_reducible refine bG2 sl_38 ze_3 rfl rfl ?_ | with_reducible refine bG2 sl_47 ze_56 rfl rfl ?_)); (first | (have := o4; intro b5 m1 hb5 n5 e1 o5; (try (have d51 := ne_of o1 n5; have d15 := d51.symm)); (try (have d52 := ne_of o2 n5; have d25 := d52.symm)); (try (have d53 := ne_of o3 n5; have d35 := d53.symm)); (try (have d54 := ne_of o4 n5; have d45 := d54.symm)); replace n5 := none_of X n5; (try simp only [ev_tmp, ev_const, upd_app, reduceCtorEq, Nat.reduceEqDiff, Nat.reduceAdd, ↓reduceIte, Value.cells, List.size_toArray, List.length_cons, List.length_nil, st_int, st_bool, st_string, st_pointer, st_slice, st_map, st_agg, ones_nil, ones_cons, oc_int, oc_bool, oc_str, oc_ptr, oc_sl, oc_map, Bool.and_true, tyAllRW08h, Option.map_some] at o5)) | (have := o3; intro b4 m1 hb4 n4 e1 o4; (try (have d41 := ne_of o1 n4; have d14 := d41.symm)); (try (have d42 := ne_of o2 n4; have d24 := d42.symm)); (try (have d43 := ne_of o3 n4; have d34 := d43.symm)); replace n4 := none_of X n4; (try simp only [ev_tmp, ev_const, upd_app, reduceCtorEq, Nat.reduceEqDiff, Nat.reduceAdd, ↓reduceIte, Value.cells, List.size_toArray, List.length_cons, List.length_nil, st_int, st_bool, st_string, st_pointer, st_slice, st_map, st_agg, ones_nil, ones_cons, oc_int, oc_bool, oc_str, oc_ptr, oc_sl, oc_map, Bool.and_true, tyAllRW08h, Option.map_some] at o4)) | (have := o2; intro b3 m1 hb3 n3 e1 o3; (try (have d31 := ne_of o1 n3; have d13 := d31.symm)); (try (have d32 := ne_of o2 n3; have d23 := d32.symm)); replace n3 := none_of X n3; (try simp only [ev_tmp, ev_const, upd_app, reduceCtorEq, Nat.reduceEqDiff, Nat.reduceAdd, ↓reduceIte, Value.cells, List.size_toArray, List.length_cons, List.length_nil, st_int, st_bool, st_string, st_pointer, st_slice, st_map, st_agg, ones_nil, ones_cons, oc_int, oc_bool, oc_str, oc_ptr, oc_sl, oc_map, Bool.and_true, tyAllRW08h, Option.map_some] at o3)) | (have := o1; intro b2 m1 hb2 n2 e1 o2; (try (have d21 := ne_of o1 n2; have d12 := d21.symm)); replace n2 := none_of X n2; (try simp only [ev_tmp, ev_const, upd_app, reduceCtorEq, Nat.reduceEqDiff, Nat.reduceAdd, ↓reduceIte, Value.cells, List.size_toArray, List.length_cons, List.length_nil, st_int, st_bool, st_string, st_pointer, st_slice, st_map, st_agg, ones_nil, ones_cons, oc_int, oc_bool, oc_str, oc_ptr, oc_sl, oc_map, Bool.and_true, tyAllRW08h, Option.map_some] at o2)) | (intro b1 m1 hb1 n1 e1 o1; replace n1 := none_of X n1; (try simp only [ev_tmp, ev_const, upd_app, reduceCtorEq, Nat.reduceEqDiff, Nat.reduceAdd, ↓reduceIte, Value.cells, List.size_toArray, List.length_cons, List.length_nil, st_int, st_bool, st_string, st_pointer, st_slice, st_map, st_agg, ones_nil, ones_cons, oc_int, oc_bool, oc_str, oc_ptr, oc_sl, oc_map, Bool.and_true, tyAllRW08h, Option.map_some] at o1))); (try replace X := X.trans e1); (try replace P3 := P3.ext e1); (try (replace o1 := e1 _ _ o1; replace c1 := blk_facts hb1 o1)); (try (replace o2 := e1 _ _ o2; replace c2 := blk_facts hb2 o2)); (try (replace o3 := e1 _ _ o3; replace c3 := blk_facts hb3 o3)); (try (replace o4 := e1 _ _ o4; replace c4 := blk_facts hb4 o4)); (try (replace o5 := e1 _ _ o5; replace c5 := blk_facts hb5 o5)); (try have c1 := blk_facts hb1 o1); (try have c2 := blk_facts hb2 o2); (try have c3 := blk_facts hb3 o3); (try have c4 := blk_facts hb4 o4); (try have c5 := blk_facts hb5 o5)) | ((first | with_reducible refine rsl_hZ sl_38 ?_ ?_ ?_ | with_reducible refine rsl_hZ sl_47 ?_ ?_ ?_); (iterate 2 (focus (first | omega | (simp only [*] <;> omega))))) | ((first | with_reducible refine rsl_lZ sl_38 ?_ ?_ ?_ | with_reducible refine rsl_lZ sl_47 ?_ ?_ ?_); (iterate 2 (focus (first | omega | (simp only [*] <;> omega))))) | ((with_reducible refine CodeA.id ?_); (first | fail)) | ((with_reducible refine And.intro ?_ ?_); (focus omega)) | with_reducible refine cK_both _ _ _ _ _ _ (fun hc => ?_) (fun hc => ?_) | ((with_reducible refine gO_both _ _ (fun hc => ?_) (fun hc => ?_)) <;> (try simp only [Bool.not_true, Bool.not_false] at hc)) | ((with_reducible refine gH_both _ _ (fun hc => ?_) (fun hc => ?_)) <;> (try simp only [Bool.not_true, Bool.not_false] at hc)) | with_reducible refine pickK_both _ (fun hc => ?_) (fun hc => ?_))
end
end Go.Proofs.Ytcddhbhdpleppaa.R
/- The plan's layer: the reference's view, over the logic of partial memories. No conditions. -/
set_option linter.unusedVariables false
set_option linter.unusedSimpArgs false
namespace Go.Proofs.Ytcddhbhdpleppaa.R
open Go Go.RowKit Go.Proofs.Ytcddhbhdpleppaa
set_option maxRecDepth 100000


set_option maxHeartbeats 8000000
section
variable {W0 : World}
end
end Go.Proofs.Ytcddhbhdpleppaa.R
