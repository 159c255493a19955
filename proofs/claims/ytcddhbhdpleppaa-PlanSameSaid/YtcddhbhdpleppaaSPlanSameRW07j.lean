/- Schedules in new memory: numbers that are copied, and what a frame in new memory is. No conditions. -/
import Derived.Test.YtcddhbhdpleppaaSPlanSameRW07i
import Derived.Test.YtcddhbhdpleppaaRApp
import Derived.Test.YtcddhbhdpleppaaRKp
set_option linter.unusedVariables false
set_option linter.unusedSimpArgs false
namespace Go.Proofs.Ytcddhbhdpleppaa.R
open Go Go.RowKit Go.Proofs.Ytcddhbhdpleppaa
set_option maxRecDepth 100000
set_option maxHeartbeats 8000000
theorem tyAllRW07j : type_of% (And.intro ty_3 ty_38) := (And.intro ty_3 ty_38)
section
variable {W0 : World}
theorem plan_copied {m : Mem} {A : Option Addr} {c : Nat} {l : List Int} (f1 : RS W0 m (.slice A l.length c) 1 l.length (i64 l)) (hn : l.length ≤ 1000000) :
    Mk Try.prog W0 98 #[.slice A l.length c] m 3 1 l.length (i64 l) := by
  refine ⟨fun K h => ?_⟩
  refine en_98 (l := [.slice A l.length c]) (by simp [Try.ntmps98]) ?_
  have X : Ext m m := Ext.refl m
  simp (maxSteps := 2000000) only [Try.f98, Option.getD_some, vcCore, yieldT, Int.reduceEq, Int.reduceLT, Int.reduceLE, Int.reduceNe, not_true_eq_false, decide_true, decide_false, add_lit', Nat.zero_add, Nat.mul_one, Int.toNat_natCast, List.getElem?_toArray, List.getElem?_cons_zero, List.getElem?_cons_succ, Option.bind_some, List.map_cons, List.map_nil, List.map_toArray, Array.append_empty, Array.empty_append, List.append_nil, List.nil_append, List.append_toArray, ↓reduceIte, Nat.reduceEqDiff, Nat.reduceAdd, Nat.reduceLeDiff, List.contains_cons, List.contains_nil, Nat.reduceBEq, Bool.or_false, Bool.false_or, Bool.or_true, Bool.true_or, Bool.false_eq_true, Value.cells, List.size_toArray, List.length_cons, List.length_nil, Option.map_some, Option.map_none, Option.isSome_some, Option.isSome_none, Option.isNone_some, Option.isNone_none, true_and, and_true, ne_eq, reduceCtorEq, not_false_eq_true, Bool.not_true, Bool.not_false, tyAllRW07j, then_normal, Int.cast_ofNat_Int, BEq.rfl, bne_self_eq_false, beq_self_eq_true, Bool.and_true, Bool.true_and, Bool.and_false, Bool.false_and, Int.reduceBEq, Int.reduceBNe, Nat.reduceMul, Nat.reduceDiv, Int.reduceToNat, Int.reduceNeg, Int.reduceAdd, Int.reduceSub, Int.reduceMul, ext_lit, Nat.reduceSub, Nat.add_zero, mp2_app, resK_cc, implies_true, imp_self, bb_ft, bb_tf, bb_t, bb_f, bn_t, bn_f, Nat.reduceLT, Mem.set_app, Mem.set_set, Ext_mp1, Ext_two, st_agg, ones_nil, ones_cons, oc_int, oc_bool, oc_str, oc_ptr, oc_sl, oc_map, max_if, min_if, bld_nil, bld_cons, bldStep_some, wr_def, List.take_succ_cons, List.take_zero, List.drop_succ_cons, List.drop_zero, List.cons_append, List.toList_toArray]
  repeat' (first | simp (maxSteps := 2000000) only [vcCore, yieldT, Int.reduceEq, Int.reduceLT, Int.reduceLE, Int.reduceNe, not_true_eq_false, decide_true, decide_false, add_lit', Nat.zero_add, Nat.mul_one, Int.toNat_natCast, List.getElem?_toArray, List.getElem?_cons_zero, List.getElem?_cons_succ, Option.bind_some, List.map_cons, List.map_nil, List.map_toArray, Array.append_empty, Array.empty_append, List.append_nil, List.nil_append, List.append_toArray, ↓reduceIte, Nat.reduceEqDiff, Nat.reduceAdd, Nat.reduceLeDiff, List.contains_cons, List.contains_nil, Nat.reduceBEq, Bool.or_false, Bool.false_or, Bool.or_true, Bool.true_or, Bool.false_eq_true, Value.cells, List.size_toArray, List.length_cons, List.length_nil, Option.map_some, Option.map_none, Option.isSome_some, Option.isSome_none, Option.isNone_some, Option.isNone_none, true_and, and_true, ne_eq, reduceCtorEq, not_false_eq_true, Bool.not_true, Bool.not_false, tyAllRW07j, then_normal, Int.cast_ofNat_Int, BEq.rfl, bne_self_eq_false, beq_self_eq_true, Bool.and_true, Bool.true_and, Bool.and_false, Bool.false_and, Int.reduceBEq, Int.reduceBNe, Nat.reduceMul, Nat.reduceDiv, Int.reduceToNat, Int.reduceNeg, Int.reduceAdd, Int.reduceSub, Int.reduceMul, ext_lit, Nat.reduceSub, Nat.add_zero, mp2_app, resK_cc, implies_true, imp_self, bb_ft, bb_tf, bb_t, bb_f, bn_t, bn_f, Nat.reduceLT, Mem.set_app, Mem.set_set, Ext_mp1, Ext_two, st_agg, ones_nil, ones_cons, oc_int, oc_bool, oc_str, oc_ptr, oc_sl, oc_map, max_if, min_if, bld_nil, bld_cons, bldStep_some, wr_def, List.take_succ_cons, List.take_zero, List.drop_succ_cons, List.drop_zero, List.cons_append, List.toList_toArray, *] | ((with_reducible refine CodeA.id ?_); (first | fail)) | ((with_reducible refine And.intro ?_ ?_); (focus omega)) | with_reducible refine cK_both _ _ _ _ _ _ (fun hc => ?_) (fun hc => ?_) | ((with_reducible refine gO_both _ _ (fun hc => ?_) (fun hc => ?_)) <;> (try simp only [Bool.not_true, Bool.not_false] at hc)) | ((with_reducible refine gH_both _ _ (fun hc => ?_) (fun hc => ?_)) <;> (try simp only [Bool.not_true, Bool.not_false] at hc)) | with_reducible refine pickK_both _ (fun hc => ?_) (fun hc => ?_))
  refine rmake sl_38 ze_3 by_3 (by unfold maxLen; omega) (by omega) fun g hg => ?_
  have E1 := Ext.fresh hg (.cells (madeCells #[.int .i64 0] (l.length * 1)) 3)
  have gm : (m.set g (.cells (madeCells #[.int .i64 0] (l.length * 1)) 3)) g = _ := Mem.set_same _ _ _
  have gn := hg.no
  have lg := hg.le
  generalize (m.set g (.cells (madeCells #[.int .i64 0] (l.length * 1)) 3)) = m1 at *
  clear X hg
  have X := Ext.refl m1
  repeat' (first | simp (maxSteps := 2000000) only [vcCore, yieldT, Int.reduceEq, Int.reduceLT, Int.reduceLE, Int.reduceNe, not_true_eq_false, decide_true, decide_false, add_lit', Nat.zero_add, Nat.mul_one, Int.toNat_natCast, List.getElem?_toArray, List.getElem?_cons_zero, List.getElem?_cons_succ, Option.bind_some, List.map_cons, List.map_nil, List.map_toArray, Array.append_empty, Array.empty_append, List.append_nil, List.nil_append, List.append_toArray, ↓reduceIte, Nat.reduceEqDiff, Nat.reduceAdd, Nat.reduceLeDiff, List.contains_cons, List.contains_nil, Nat.reduceBEq, Bool.or_false, Bool.false_or, Bool.or_true, Bool.true_or, Bool.false_eq_true, Value.cells, List.size_toArray, List.length_cons, List.length_nil, Option.map_some, Option.map_none, Option.isSome_some, Option.isSome_none, Option.isNone_some, Option.isNone_none, true_and, and_true, ne_eq, reduceCtorEq, not_false_eq_true, Bool.not_true, Bool.not_false, tyAllRW07j, then_normal, Int.cast_ofNat_Int, BEq.rfl, bne_self_eq_false, beq_self_eq_true, Bool.and_true, Bool.true_and, Bool.and_false, Bool.false_and, Int.reduceBEq, Int.reduceBNe, Nat.reduceMul, Nat.reduceDiv, Int.reduceToNat, Int.reduceNeg, Int.reduceAdd, Int.reduceSub, Int.reduceMul, ext_lit, Nat.reduceSub, Nat.add_zero, mp2_app, resK_cc, implies_true, imp_self, bb_ft, bb_tf, bb_t, bb_f, bn_t, bn_f, Nat.reduceLT, Mem.set_app, Mem.set_set, Ext_mp1, Ext_two, st_agg, ones_nil, ones_cons, oc_int, oc_bool, oc_str, oc_ptr, oc_sl, oc_map, max_if, min_if, bld_nil, bld_cons, bldStep_some, wr_def, List.take_succ_cons, List.take_zero, List.drop_succ_cons, List.drop_zero, List.cons_append, List.toList_toArray, *] | ((with_reducible refine CodeA.id ?_); (first | fail)) | ((with_reducible refine And.intro ?_ ?_); (focus omega)) | with_reducible refine cK_both _ _ _ _ _ _ (fun hc => ?_) (fun hc => ?_) | ((with_reducible refine gO_both _ _ (fun hc => ?_) (fun hc => ?_)) <;> (try simp only [Bool.not_true, Bool.not_false] at hc)) | ((with_reducible refine gH_both _ _ (fun hc => ?_) (fun hc => ?_)) <;> (try simp only [Bool.not_true, Bool.not_false] at hc)) | with_reducible refine pickK_both _ (fun hc => ?_) (fun hc => ?_))
  have rd := f1.ext E1
  obtain ⟨_, A', c', hv, hsrc⟩ := rd
  cases hv
  refine rcopy (cs := i64 l) sl_38 gm (by simp [i64]) hsrc (by simp [i64, size_madeCells]) (by intro u hu; simp [i64] at hu; obtain ⟨x, _, rfl⟩ := hu; rfl) ?_
  have hw : wr (madeCells #[.int .i64 0] (l.length * 1)) 0 (i64 l) = (i64 l).toArray := by
    unfold wr
    rw [List.drop_eq_nil_of_le (by simp [i64, size_madeCells])]
    simp
  rw [hw]
  have N1 : NewS W0 m (m1.set g (.cells (i64 l).toArray 3)) 3 1 (.slice (some ⟨g, 0, none⟩) l.length l.length) l.length (i64 l) := by
    refine ⟨⟨by simp [i64], .inr ⟨g, l.length, _, rfl, lg, Mem.set_same _ _ _, Nat.le_refl _, by unfold maxLen; omega, by simp [i64], ?_⟩⟩, fun x o hx => ?_, fun g' hg' => ?_⟩
    · rw [Nat.mul_one]
      exact List.take_of_length_le (by simp [i64])
    · rw [Mem.set_ne _ _ _ (fun e => by subst e; rw [gn] at hx; cases hx)]; exact E1 _ _ hx
    · cases hg'; exact gn
  have hfin := h _ _ _ N1
  clear N1 h X
  generalize (m1.set g (.cells (i64 l).toArray 3)) = m2 at *
  have X := Ext.refl m2
  repeat' (first | simp (maxSteps := 2000000) only [vcCore, yieldT, Int.reduceEq, Int.reduceLT, Int.reduceLE, Int.reduceNe, not_true_eq_false, decide_true, decide_false, add_lit', Nat.zero_add, Nat.mul_one, Int.toNat_natCast, List.getElem?_toArray, List.getElem?_cons_zero, List.getElem?_cons_succ, Option.bind_some, List.map_cons, List.map_nil, List.map_toArray, Array.append_empty, Array.empty_append, List.append_nil, List.nil_append, List.append_toArray, ↓reduceIte, Nat.reduceEqDiff, Nat.reduceAdd, Nat.reduceLeDiff, List.contains_cons, List.contains_nil, Nat.reduceBEq, Bool.or_false, Bool.false_or, Bool.or_true, Bool.true_or, Bool.false_eq_true, Value.cells, List.size_toArray, List.length_cons, List.length_nil, Option.map_some, Option.map_none, Option.isSome_some, Option.isSome_none, Option.isNone_some, Option.isNone_none, true_and, and_true, ne_eq, reduceCtorEq, not_false_eq_true, Bool.not_true, Bool.not_false, tyAllRW07j, then_normal, Int.cast_ofNat_Int, BEq.rfl, bne_self_eq_false, beq_self_eq_true, Bool.and_true, Bool.true_and, Bool.and_false, Bool.false_and, Int.reduceBEq, Int.reduceBNe, Nat.reduceMul, Nat.reduceDiv, Int.reduceToNat, Int.reduceNeg, Int.reduceAdd, Int.reduceSub, Int.reduceMul, ext_lit, Nat.reduceSub, Nat.add_zero, mp2_app, resK_cc, implies_true, imp_self, bb_ft, bb_tf, bb_t, bb_f, bn_t, bn_f, Nat.reduceLT, Mem.set_app, Mem.set_set, Ext_mp1, Ext_two, st_agg, ones_nil, ones_cons, oc_int, oc_bool, oc_str, oc_ptr, oc_sl, oc_map, max_if, min_if, bld_nil, bld_cons, bldStep_some, wr_def, List.take_succ_cons, List.take_zero, List.drop_succ_cons, List.drop_zero, List.cons_append, List.toList_toArray, *] | ((with_reducible refine CodeA.id ?_); (first | fail)) | ((with_reducible refine And.intro ?_ ?_); (focus omega)) | with_reducible refine cK_both _ _ _ _ _ _ (fun hc => ?_) (fun hc => ?_) | ((with_reducible refine gO_both _ _ (fun hc => ?_) (fun hc => ?_)) <;> (try simp only [Bool.not_true, Bool.not_false] at hc)) | ((with_reducible refine gH_both _ _ (fun hc => ?_) (fun hc => ?_)) <;> (try simp only [Bool.not_true, Bool.not_false] at hc)) | with_reducible refine pickK_both _ (fun hc => ?_) (fun hc => ?_))
  all_goals exact hfin
/-- The blocks of numbers' lists, of windows, of a frame. -/
def ob (s : Sl Int) : Option Nat := (Value.slice s.A s.l.length s.c).ownBlock
def bw (w : WinV) : List Nat := (ob w.fr).toList ++ (ob w.to).toList
def blks (L : List WinV) : List Nat := L.flatMap bw
def of_ (f : Sl WinV) : Option Nat := (Value.slice f.A f.l.length f.c).ownBlock
/-- A frame in new memory: nothing of it is known to m0, and no two lists of it share a block. -/
structure ClV (W0 : World) (m0 m : Mem) (f : Sl WinV) : Prop where
  win : OwnS W0 m 56 6 (.slice f.A f.l.length f.c) f.l.length (f.l.flatMap WinV.cs)
  fr : ∀ w ∈ f.l, OwnS W0 m 3 1 (.slice w.fr.A w.fr.l.length w.fr.c) w.fr.l.length (i64 w.fr.l)
  to : ∀ w ∈ f.l, OwnS W0 m 3 1 (.slice w.to.A w.to.l.length w.to.c) w.to.l.length (i64 w.to.l)
  new : ∀ g ∈ (of_ f).toList ++ blks f.l, m0 g = none
  nod : ((of_ f).toList ++ blks f.l).Nodup
theorem own_live {m : Mem} {e : TypeId} {size n : Nat} {v : Value} {xs : List Value} (h : OwnS W0 m e size v n xs) {g : Nat} (hg : v.ownBlock = some g) : ∃ o, m g = some o := by
  rcases h.2 with ⟨rfl, _⟩ | ⟨g', cap, cur, rfl, _, hm, _⟩
  · cases hg
  · cases hg; exact ⟨_, hm⟩
theorem ClV.live {m0 m : Mem} {f : Sl WinV} (h : ClV W0 m0 m f) : ∀ g ∈ blks f.l, ∃ o, m g = some o := fun g hg => by
  obtain ⟨w, hw, hg⟩ := List.mem_flatMap.1 hg
  rcases List.mem_append.1 hg with hg | hg
  · exact own_live (h.fr w hw) (by rwa [Option.mem_toList] at hg)
  · exact own_live (h.to w hw) (by rwa [Option.mem_toList] at hg)
theorem ClV.nil (m : Mem) : ClV W0 m m ⟨none, 0, []⟩ := ⟨OwnS.nil _ _ _, fun w hw => by simp at hw, fun w hw => by simp at hw, fun g hg => by simp [of_, Value.ownBlock, blks] at hg, by simp [of_, Value.ownBlock, blks]⟩
theorem ClV.ext {m0 m m' : Mem} {f : Sl WinV} (h : ClV W0 m0 m f) (e : Ext m m') : ClV W0 m0 m' f := ⟨h.win.ext e, fun w hw => (h.fr w hw).ext e, fun w hw => (h.to w hw).ext e, h.new, h.nod⟩
/-- All blocks of a frame are as they were. -/
theorem ClV.frame {m0 m m' : Mem} {f : Sl WinV} (h : ClV W0 m0 m f) (k : ∀ g ∈ (of_ f).toList ++ blks f.l, ∀ o, m g = some o → m' g = some o) : ClV W0 m0 m' f :=
  ⟨h.win.frame fun g o hg => k g (List.mem_append.2 (.inl (by rw [Option.mem_toList]; exact hg))) o,
   fun w hw => (h.fr w hw).frame fun g o hg => k g (List.mem_append.2 (.inr (List.mem_flatMap.2 ⟨w, hw, List.mem_append.2 (.inl (by rw [Option.mem_toList]; exact hg))⟩))) o,
   fun w hw => (h.to w hw).frame fun g o hg => k g (List.mem_append.2 (.inr (List.mem_flatMap.2 ⟨w, hw, List.mem_append.2 (.inr (by rw [Option.mem_toList]; exact hg))⟩))) o, h.new, h.nod⟩
/-- One more window. -/
theorem ClV.snoc {m0 m m5 m6 mS : Mem} {b3 : Nat} {f : Sl WinV} {w : WinV} {A : Option Addr} {c : Nat} (h : ClV W0 m0 m f) (kp : Keep m0 m (some b3)) (l3 : ∃ o, m b3 = some o) (z3 : m0 b3 ≠ none) (E : Ext m m5)
    (F1 : OwnS W0 m5 3 1 (.slice w.fr.A w.fr.l.length w.fr.c) w.fr.l.length (i64 w.fr.l)) (F2 : OwnS W0 m5 3 1 (.slice w.to.A w.to.l.length w.to.c) w.to.l.length (i64 w.to.l))
    (n1 : ∀ g, ob w.fr = some g → m g = none) (n2 : ∀ g, ob w.to = some g → m g = none) (d12 : ∀ g, ob w.fr = some g → ob w.to ≠ some g)
    (O : OwnS W0 m6 56 6 (.slice A (f.l.length + 1) c) (f.l.length + 1) (f.l.flatMap WinV.cs ++ w.cs))
    (hk : ∀ b o, m5 b = some o → (Value.slice f.A f.l.length f.c).ownBlock ≠ some b → m6 b = some o ∧ (Value.slice A (f.l.length + 1) c).ownBlock ≠ some b)
    (hS : ∀ x o, m6 x = some o → x ≠ b3 → mS x = some o) : ClV W0 m0 mS ⟨A, c, f.l ++ [w]⟩ := by
  have up : ∀ g, m g = none → m0 g = none := fun g hg => by
    cases h0 : m0 g with
    | none => rfl
    | some o =>
      by_cases e : g = b3
      · subst e; obtain ⟨o3, h3⟩ := l3; rw [h3] at hg; cases hg
      · rw [kp g o h0 (by simpa using Ne.symm e)] at hg; cases hg
  have n3 : ∀ g, m0 g = none → g ≠ b3 := fun g hg e => z3 (e ▸ hg)
  have hfb : ∀ b ∈ blks f.l, (Value.slice f.A f.l.length f.c).ownBlock ≠ some b := fun b hb e => (List.nodup_append.1 h.nod).2.2 b (by rw [Option.mem_toList]; exact e) b hb rfl
  have hf1 : ∀ g, ob w.fr = some g → (Value.slice f.A f.l.length f.c).ownBlock ≠ some g := fun g hg e => by obtain ⟨o, ho⟩ := own_live h.win e; rw [n1 g hg] at ho; cases ho
  have hf2 : ∀ g, ob w.to = some g → (Value.slice f.A f.l.length f.c).ownBlock ≠ some g := fun g hg e => by obtain ⟨o, ho⟩ := own_live h.win e; rw [n2 g hg] at ho; cases ho
  have mv : ∀ g o, m5 g = some o → (Value.slice f.A f.l.length f.c).ownBlock ≠ some g → m0 g = none → mS g = some o := fun g o ho hne h0 => hS _ _ (hk _ _ ho hne).1 (n3 g h0)
  have hnew : ∀ g, (Value.slice A (f.l.length + 1) c).ownBlock = some g → m0 g = none := fun g hg => by
    cases h0 : m0 g with
    | none => rfl
    | some o =>
      exfalso
      by_cases e : (Value.slice f.A f.l.length f.c).ownBlock = some g
      · have := h.new g (List.mem_append.2 (.inl (by rw [Option.mem_toList]; exact e)))
        rw [this] at h0; cases h0
      · have : ∃ o', m5 g = some o' := by
          by_cases e3 : g = b3
          · subst e3; obtain ⟨o3, h3⟩ := l3; exact ⟨_, E _ _ h3⟩
          · exact ⟨_, E _ _ (kp g o h0 (by simpa using Ne.symm e3))⟩
        obtain ⟨o', ho'⟩ := this
        exact (hk g o' ho' e).2 hg
  have hlen : (f.l ++ [w]).length = f.l.length + 1 := by simp
  refine ⟨?_, fun x hx => ?_, fun x hx => ?_, fun g hg => ?_, ?_⟩
  · show OwnS W0 mS 56 6 (.slice A (f.l ++ [w]).length c) (f.l ++ [w]).length ((f.l ++ [w]).flatMap WinV.cs)
    rw [hlen, List.flatMap_append]
    have := O.frame (m' := mS) fun g o hg ho => hS _ _ ho (n3 g (hnew g hg))
    simpa using this
  · rcases List.mem_append.1 hx with hx | hx
    · exact ((h.fr x hx).ext E).frame fun g o hg ho => mv g o ho (hfb g (List.mem_flatMap.2 ⟨x, hx, List.mem_append.2 (.inl (by rw [Option.mem_toList]; exact hg))⟩)) (h.new g (List.mem_append.2 (.inr (List.mem_flatMap.2 ⟨x, hx, List.mem_append.2 (.inl (by rw [Option.mem_toList]; exact hg))⟩))))
    · rw [List.mem_singleton] at hx
      subst hx
      exact F1.frame fun g o hg ho => mv g o ho (hf1 g hg) (up g (n1 g hg))
  · rcases List.mem_append.1 hx with hx | hx
    · exact ((h.to x hx).ext E).frame fun g o hg ho => mv g o ho (hfb g (List.mem_flatMap.2 ⟨x, hx, List.mem_append.2 (.inr (by rw [Option.mem_toList]; exact hg))⟩)) (h.new g (List.mem_append.2 (.inr (List.mem_flatMap.2 ⟨x, hx, List.mem_append.2 (.inr (by rw [Option.mem_toList]; exact hg))⟩))))
    · rw [List.mem_singleton] at hx
      subst hx
      exact F2.frame fun g o hg ho => mv g o ho (hf2 g hg) (up g (n2 g hg))
  · rcases List.mem_append.1 hg with hg | hg
    · rw [Option.mem_toList] at hg
      unfold of_ at hg
      rw [hlen] at hg
      exact hnew g hg
    · unfold blks at hg
      rw [List.flatMap_append] at hg
      rcases List.mem_append.1 hg with hg | hg
      · exact h.new g (List.mem_append.2 (.inr hg))
      · simp only [List.flatMap_cons, List.flatMap_nil, List.append_nil] at hg
        rcases List.mem_append.1 hg with hg | hg
        · rw [Option.mem_toList] at hg; exact up g (n1 g hg)
        · rw [Option.mem_toList] at hg; exact up g (n2 g hg)
  · have live5 : ∀ g ∈ blks (f.l ++ [w]), ∃ o, m5 g = some o ∧ (Value.slice f.A f.l.length f.c).ownBlock ≠ some g := fun g hg => by
      unfold blks at hg
      rw [List.flatMap_append] at hg
      rcases List.mem_append.1 hg with hg | hg
      · obtain ⟨o, ho⟩ := h.live g hg
        exact ⟨o, E _ _ ho, hfb g hg⟩
      · simp only [List.flatMap_cons, List.flatMap_nil, List.append_nil] at hg
        rcases List.mem_append.1 hg with hg | hg
        · rw [Option.mem_toList] at hg
          obtain ⟨o, ho⟩ := own_live F1 hg
          exact ⟨o, ho, hf1 g hg⟩
        · rw [Option.mem_toList] at hg
          obtain ⟨o, ho⟩ := own_live F2 hg
          exact ⟨o, ho, hf2 g hg⟩
    have tl : ∀ o : Option Nat, o.toList.Nodup := fun o => by cases o <;> simp
    refine List.nodup_append.2 ⟨tl _, ?_, fun a ha b hb e => ?_⟩
    · unfold blks
      rw [List.flatMap_append]
      refine List.nodup_append.2 ⟨(List.nodup_append.1 h.nod).2.1, ?_, fun a ha b hb e => ?_⟩
      · simp only [List.flatMap_cons, List.flatMap_nil, List.append_nil]
        refine List.nodup_append.2 ⟨tl _, tl _, fun a ha b hb e => ?_⟩
        rw [Option.mem_toList] at ha hb
        subst e
        exact d12 a ha hb
      · subst e
        obtain ⟨o, ho⟩ := h.live a ha
        simp only [List.flatMap_cons, List.flatMap_nil, List.append_nil] at hb
        rcases List.mem_append.1 hb with hb | hb
        · rw [Option.mem_toList] at hb; rw [n1 a hb] at ho; cases ho
        · rw [Option.mem_toList] at hb; rw [n2 a hb] at ho; cases ho
    · subst e
      rw [Option.mem_toList] at ha
      unfold of_ at ha
      rw [hlen] at ha
      obtain ⟨o, ho, hne⟩ := live5 a hb
      exact (hk a o ho hne).2 ha
end
end Go.Proofs.Ytcddhbhdpleppaa.R
