/- The validity layer: the pulses of a frame, over the logic of partial memories. No conditions. -/
import Derived.Test.YtapppaccnkojkaaSValidChecksRW07e
import Derived.Test.YtapppaccnkojkaaRApp
set_option linter.unusedVariables false
set_option linter.unusedSimpArgs false
namespace Go.Proofs.Ytapppaccnkojkaa.R
open Go Go.RowKit Go.Proofs.Ytapppaccnkojkaa
set_option maxRecDepth 100000
set_option maxHeartbeats 8000000
theorem tyAllRW08 : type_of% (And.intro (And.intro ty_1 (And.intro ty_3 ty_4)) (And.intro (And.intro ty_76 ty_93) (And.intro ty_135 ty_143))) := (And.intro (And.intro ty_1 (And.intro ty_3 ty_4)) (And.intro (And.intro ty_76 ty_93) (And.intro ty_135 ty_143)))
section
variable {W0 : World}
theorem NewS.base8 {m m1 m2 : Mem} {e : TypeId} {size n : Nat} {v : Value} {xs : List Value} (N : NewS W0 m1 m2 e size v n xs) (x : Ext m m1) : NewS W0 m m2 e size v n xs :=
  ⟨N.own, x.trans N.ext, fun g h => none_of x (N.new g h)⟩
/-- Pulses that come one behind the other: what was told, where, and where the last one was. -/
def stepR (st : List Int × Int × Int) (w : WinV) : List Int × Int × Int := if w.kind = 2 then (st.1 ++ [st.2.1 + 2 - st.2.2], st.2.1 + w.len, st.2.1 + 2) else (st.1, st.2.1 + w.len, st.2.2)
def stR (v : Int) (l : List WinV) : List Int × Int × Int := l.foldl stepR ([], 10 + 2 * v, 3)
def spansOf (v : Int) (l : List WinV) : List Int := (stR v l).1 ++ [(stR v l).2.1 + 9 - (stR v l).2.2]
theorem stR_snoc (v : Int) (l : List WinV) (w : WinV) : stR v (l ++ [w]) = stepR (stR v l) w := by simp [stR]
theorem fold_le : ∀ (l : List WinV) (o : List Int) (a b : Int), 10 ≤ a → 3 ≤ b → b ≤ a + 4 → (l.foldl stepR (o, a, b)).1.length ≤ o.length + l.length ∧ a ≤ (l.foldl stepR (o, a, b)).2.1 ∧ (l.foldl stepR (o, a, b)).2.1 ≤ a + 1000 * l.length ∧
      3 ≤ (l.foldl stepR (o, a, b)).2.2 ∧ (l.foldl stepR (o, a, b)).2.2 ≤ (l.foldl stepR (o, a, b)).2.1 + 4
  | [], o, a, b, h1, h2, h3 => by simp; omega
  | w :: l, o, a, b, h1, h2, h3 => by
    have hw := w.len_le
    rw [List.foldl_cons]
    have hst : stepR (o, a, b) w = if w.kind = 2 then (o ++ [a + 2 - b], a + w.len, a + 2) else (o, a + w.len, b) := rfl
    rw [hst]
    split
    · have := fold_le l (o ++ [a + 2 - b]) (a + w.len) (a + 2) (by omega) (by omega) (by omega)
      simp only [List.length_append, List.length_cons, List.length_nil] at *
      omega
    · have := fold_le l o (a + w.len) b (by omega) (by omega) (by omega)
      simp only [List.length_cons] at *
      omega
theorem stR_le {v : Int} (hv : 0 ≤ v ∧ v < 2) (l : List WinV) : (stR v l).1.length ≤ l.length ∧ 10 ≤ (stR v l).2.1 ∧ (stR v l).2.1 ≤ 12 + 1000 * l.length ∧ 3 ≤ (stR v l).2.2 ∧ (stR v l).2.2 ≤ 16 + 1000 * l.length := by
  have := fold_le l [] (10 + 2 * v) 3 (by omega) (by omega) (by omega)
  unfold stR
  simp only [List.length_nil] at this
  omega
def stepS (st : List Int × Int) (x : SlotV) : List Int × Int := if x.kind = 2 then (st.1 ++ [(x.start + 40 - st.2) / 20], x.start + 40) else st
def midL (v : Int) (l : List WinV) : List SlotV := viewMid (-1) (startOf v) l ++ [lastSlot (startOf v + sumT l)]
def vwL (v : Int) (l : List WinV) : List SlotV := firstSlot v :: midL v l
theorem fold_mid (mo : Int) : ∀ (l : List WinV) (out : List Int) (at_ last : Int),
    (viewMid mo (20 * at_) l).foldl stepS (out, 20 * last) = ((l.foldl stepR (out, at_, last)).1, 20 * (l.foldl stepR (out, at_, last)).2.2) ∧ 20 * (l.foldl stepR (out, at_, last)).2.1 = 20 * at_ + sumT l
  | [], out, at_, last => by simp [viewMid, sumT]
  | w :: l, out, at_, last => by
    simp only [List.foldl_cons, sumT]
    unfold viewMid
    by_cases hk : 0 ≤ w.kind ∧ w.kind ≤ 2
    · rw [if_pos hk, List.foldl_cons]
      have hs : stepS (out, 20 * last) (w.slot (20 * at_) mo) = if w.kind = 2 then (out ++ [at_ + 2 - last], 20 * (at_ + 2)) else (out, 20 * last) := by
        unfold stepS
        rw [show (w.slot (20 * at_) mo).kind = w.kind from rfl, show (w.slot (20 * at_) mo).start = 20 * at_ from rfl]
        split
        · rw [show (20 * at_ + 40 - 20 * last) / 20 = at_ + 2 - last by omega, show 20 * at_ + 40 = 20 * (at_ + 2) by omega]
        · rfl
      rw [hs, show 20 * at_ + w.ticks = 20 * (at_ + w.len) by unfold WinV.ticks; omega]
      have hst : stepR (out, at_, last) w = if w.kind = 2 then (out ++ [at_ + 2 - last], at_ + w.len, at_ + 2) else (out, at_ + w.len, last) := rfl
      rw [hst]
      split
      · have := fold_mid mo l (out ++ [at_ + 2 - last]) (at_ + w.len) (at_ + 2)
        refine ⟨this.1, ?_⟩
        rw [this.2]; unfold WinV.ticks; omega
      · have := fold_mid mo l out (at_ + w.len) last
        refine ⟨this.1, ?_⟩
        rw [this.2]; unfold WinV.ticks; omega
    · rw [if_neg hk]
      have h0 := ticks_out hk
      have h1 : w.len = 0 := by unfold WinV.ticks at h0; omega
      have : stepR (out, at_, last) w = (out, at_, last) := by
        unfold stepR; rw [if_neg (by omega), h1]; simp
      rw [this]
      have := fold_mid mo l out at_ last
      refine ⟨this.1, ?_⟩
      rw [this.2, h0]; omega
theorem fold_all (v : Int) (l : List WinV) : (midL v l).foldl stepS ([], 60) = ((stR v l).1, 20 * (stR v l).2.2) ∧ startOf v + sumT l = 20 * (stR v l).2.1 := by
  have h := fold_mid (-1) l [] (10 + 2 * v) 3
  have e : startOf v = 20 * (10 + 2 * v) := rfl
  unfold midL
  rw [List.foldl_append, e]
  rw [show (60 : Int) = 20 * 3 from rfl, h.1]
  refine ⟨?_, h.2.symm⟩
  simp only [List.foldl_cons, List.foldl_nil]
  unfold stepS
  rw [if_neg (by show ¬ (4 : Int) = 2; omega)]; rfl
theorem mid_facts (mo : Int) : ∀ (l : List WinV) (ab : Int), 0 ≤ ab → ∀ x ∈ viewMid mo (20 * ab) l, x.kind ≠ 3 ∧ (0 ≤ x.long ∧ x.long ≤ 20000) ∧ ∃ sb, x.start = 20 * sb ∧ 0 ≤ sb ∧ sb ≤ ab + 1000 * l.length
  | [], ab, h0, x, hx => by simp [viewMid] at hx
  | w :: l, ab, h0, x, hx => by
    have hl := w.len_le
    have hrec : ∀ y ∈ viewMid mo (20 * (ab + w.len)) l, y.kind ≠ 3 ∧ (0 ≤ y.long ∧ y.long ≤ 20000) ∧ ∃ sb, y.start = 20 * sb ∧ 0 ≤ sb ∧ sb ≤ ab + 1000 * (w :: l).length := fun y hy => by
      obtain ⟨h1, h2, sb, h3, h4, h5⟩ := mid_facts mo l (ab + w.len) (by omega) y hy
      exact ⟨h1, h2, sb, h3, h4, by simp only [List.length_cons]; omega⟩
    unfold viewMid at hx
    split at hx
    · rename_i hk
      rcases List.mem_cons.1 hx with rfl | hx
      · exact ⟨by show w.kind ≠ 3; omega, by show 0 ≤ w.ticks ∧ w.ticks ≤ 20000; unfold WinV.ticks; omega, ab, rfl, h0, by omega⟩
      · exact hrec x (by rw [show 20 * (ab + w.len) = 20 * ab + w.ticks by unfold WinV.ticks; omega]; exact hx)
    · rename_i hk
      have h0' := ticks_out hk
      exact hrec x (by rw [show 20 * (ab + w.len) = 20 * ab by unfold WinV.ticks at h0'; omega]; exact hx)
theorem mid_all {v : Int} (hv : 0 ≤ v ∧ v < 2) (l : List WinV) : ∀ x ∈ midL v l, x.kind ≠ 3 ∧ (0 ≤ x.long ∧ x.long ≤ 20000) ∧ ∃ sb, x.start = 20 * sb ∧ 0 ≤ sb ∧ sb ≤ 12 + 1000 * l.length := by
  intro x hx
  unfold midL at hx
  rcases List.mem_append.1 hx with hx | hx
  · obtain ⟨h1, h2, sb, h3, h4, h5⟩ := mid_facts (-1) l (10 + 2 * v) (by omega) x hx
    exact ⟨h1, h2, sb, h3, h4, by omega⟩
  · simp only [List.mem_singleton] at hx
    subst hx
    have h := (fold_all v l).2
    have hb := stR_le hv l
    exact ⟨by show (4 : Int) ≠ 3; omega, by show (0 : Int) ≤ 120 ∧ (120 : Int) ≤ 20000; omega, (stR v l).2.1, h, by omega, by omega⟩
theorem midL_length (v : Int) (l : List WinV) : (midL v l).length ≤ l.length + 1 := by
  have := viewMid_length (-1) l (startOf v)
  simp [midL]; omega
/-- What was told of the first slots. -/
def stS (v : Int) (l : List WinV) (j : Nat) : List Int × Int := ((midL v l).take j).foldl stepS ([], 60)
theorem stS_succ {v : Int} {l : List WinV} {j : Nat} {x : SlotV} (h : (midL v l)[j]? = some x) : stS v l (j + 1) = stepS (stS v l j) x := by
  unfold stS; rw [take_step h, List.foldl_append]; rfl
theorem stS_last {v : Int} (hv : 0 ≤ v ∧ v < 2) (l : List WinV) : ∀ j, j ≤ (midL v l).length → (stS v l j).1.length ≤ j ∧ ∃ lb, (stS v l j).2 = 20 * lb ∧ 0 ≤ lb ∧ lb ≤ 14 + 1000 * l.length := by
  intro j
  induction j with
  | zero => intro _; exact ⟨by simp [stS], 3, rfl, by omega, by omega⟩
  | succ j ih =>
    intro hj
    obtain ⟨h1, lb, h2, h3, h4⟩ := ih (by omega)
    obtain ⟨x, hx⟩ := get_some (l := midL v l) (i := j) (by omega)
    obtain ⟨_, _, sb, g1, g2, g3⟩ := mid_all hv l x (List.mem_of_getElem? hx)
    rw [stS_succ hx]
    unfold stepS
    split
    · exact ⟨by simp; omega, sb + 2, by rw [g1]; show 20 * sb + 40 = _; omega, by omega, by omega⟩
    · exact ⟨by omega, lb, h2, h3, h4⟩
/-- The cells of the document's windows are the plan's. -/
theorem ref08_Spans {m : Mem} {A : Option Addr} {c : Nat} {l : List WinV} {v : Int} (hv : 0 ≤ v ∧ v < 2) (f1 : ∀ M, Ext m M → RS W0 M (.slice A l.length c) 6 l.length (l.flatMap WinV.cs)) (hl : l.length ≤ 1000000) :
    Mk Try.prog W0 89 #[.slice A l.length c, .int .i64 v] m 3 1 (spansOf v l).length (i64 (spansOf v l)) := by
  have e1 : IntKind.i64.wrap (2 * v) = 2 * v := w64 (by omega) (by omega)
  have e2 : IntKind.i64.wrap (10 + 2 * v) = 10 + 2 * v := w64 (by omega) (by omega)
  refine ⟨fun K h => ?_⟩
  refine en_89 (l := [.slice A l.length c, .int .i64 v]) (by simp [Try.ntmps89]) ?_
  have X : Ext m m := Ext.refl m
  simp (maxSteps := 2000000) only [Try.f89, Option.getD_some, vcCore, yieldT, Int.reduceEq, Int.reduceLT, Int.reduceLE, Int.reduceNe, not_true_eq_false, decide_true, decide_false, add_lit', Nat.zero_add, Nat.mul_one, Int.toNat_natCast, List.getElem?_toArray, List.getElem?_cons_zero, List.getElem?_cons_succ, Option.bind_some, List.map_cons, List.map_nil, List.map_toArray, Array.append_empty, Array.empty_append, List.append_nil, List.nil_append, List.append_toArray, ↓reduceIte, Nat.reduceEqDiff, Nat.reduceAdd, Nat.reduceLeDiff, List.contains_cons, List.contains_nil, Nat.reduceBEq, Bool.or_false, Bool.false_or, Bool.or_true, Bool.true_or, Bool.false_eq_true, Value.cells, List.size_toArray, List.length_cons, List.length_nil, Option.map_some, Option.map_none, Option.isSome_some, Option.isSome_none, Option.isNone_some, Option.isNone_none, true_and, and_true, ne_eq, reduceCtorEq, not_false_eq_true, Bool.not_true, Bool.not_false, tyAllRW08, then_normal, Int.cast_ofNat_Int, BEq.rfl, bne_self_eq_false, beq_self_eq_true, Bool.and_true, Bool.true_and, Bool.and_false, Bool.false_and, Int.reduceBEq, Int.reduceBNe, Nat.reduceMul, Nat.reduceDiv, Int.reduceToNat, Int.reduceNeg, Int.reduceAdd, Int.reduceSub, Int.reduceMul, ext_lit, Nat.reduceSub, Nat.add_zero, mp2_app, resK_cc, implies_true, imp_self, bb_ft, bb_tf, bb_t, bb_f, bn_t, bn_f, Nat.reduceLT, Mem.set_app, Mem.set_set, Ext_mp1, Ext_two, st_agg, ones_nil, ones_cons, oc_int, oc_bool, oc_str, oc_ptr, oc_sl, oc_map, max_if, min_if, bld_nil, bld_cons, bldStep_some, wr_def, List.take_succ_cons, List.take_zero, List.drop_succ_cons, List.drop_zero, List.cons_append, List.toList_toArray]
  repeat' (first
    | simp (maxSteps := 2000000) only [vcCore, yieldT, Int.reduceEq, Int.reduceLT, Int.reduceLE, Int.reduceNe, not_true_eq_false, decide_true, decide_false, add_lit', Nat.zero_add, Nat.mul_one, Int.toNat_natCast, List.getElem?_toArray, List.getElem?_cons_zero, List.getElem?_cons_succ, Option.bind_some, List.map_cons, List.map_nil, List.map_toArray, Array.append_empty, Array.empty_append, List.append_nil, List.nil_append, List.append_toArray, ↓reduceIte, Nat.reduceEqDiff, Nat.reduceAdd, Nat.reduceLeDiff, List.contains_cons, List.contains_nil, Nat.reduceBEq, Bool.or_false, Bool.false_or, Bool.or_true, Bool.true_or, Bool.false_eq_true, Value.cells, List.size_toArray, List.length_cons, List.length_nil, Option.map_some, Option.map_none, Option.isSome_some, Option.isSome_none, Option.isNone_some, Option.isNone_none, true_and, and_true, ne_eq, reduceCtorEq, not_false_eq_true, Bool.not_true, Bool.not_false, tyAllRW08, then_normal, Int.cast_ofNat_Int, BEq.rfl, bne_self_eq_false, beq_self_eq_true, Bool.and_true, Bool.true_and, Bool.and_false, Bool.false_and, Int.reduceBEq, Int.reduceBNe, Nat.reduceMul, Nat.reduceDiv, Int.reduceToNat, Int.reduceNeg, Int.reduceAdd, Int.reduceSub, Int.reduceMul, ext_lit, Nat.reduceSub, Nat.add_zero, mp2_app, resK_cc, implies_true, imp_self, bb_ft, bb_tf, bb_t, bb_f, bn_t, bn_f, Nat.reduceLT, Mem.set_app, Mem.set_set, Ext_mp1, Ext_two, st_agg, ones_nil, ones_cons, oc_int, oc_bool, oc_str, oc_ptr, oc_sl, oc_map, max_if, min_if, bld_nil, bld_cons, bldStep_some, wr_def, List.take_succ_cons, List.take_zero, List.drop_succ_cons, List.drop_zero, List.cons_append, List.toList_toArray, *]
    | ((with_reducible refine CodeA.id ?_); (first | fail))
    | ((with_reducible refine And.intro ?_ ?_); (focus omega))
    | with_reducible refine cK_both _ _ _ _ _ _ (fun hc => ?_) (fun hc => ?_)
    | ((with_reducible refine gO_both _ _ (fun hc => ?_) (fun hc => ?_)) <;> (try simp only [Bool.not_true, Bool.not_false] at hc))
    | ((with_reducible refine gH_both _ _ (fun hc => ?_) (fun hc => ?_)) <;> (try simp only [Bool.not_true, Bool.not_false] at hc))
    | with_reducible refine pickK_both _ (fun hc => ?_) (fun hc => ?_))
  refine loop_rule (fun d t m' => ∃ (i : Nat) (A1 : Option Addr) (q1 n1 : Nat), i ≤ l.length ∧ d = l.length - i ∧ t 0 = .slice A l.length c ∧ t 5 = .int .i64 (stR v (l.take i)).2.1 ∧ t 6 = .int .i64 (stR v (l.take i)).2.2 ∧ t 7 = .slice A1 n1 q1 ∧ t 8 = .int .i64 i ∧ n1 = (stR v (l.take i)).1.length ∧ NewS W0 m m' 3 1 (.slice A1 n1 q1) n1 (i64 (stR v (l.take i)).1))
    l.length (by kernel_rfl) ⟨0, none, 0, 0, by omega, by omega, rfl, rfl, rfl, rfl, rfl, rfl, (NewS.nil m 3 1).later X⟩ ?_
  clear X e1 e2
  rintro d t m' ⟨i, A1, q1, nn, hi, rfl, t0, t5, t6, t7, t8, hnn, N1⟩
  have X := N1.ext
  have hnl : nn ≤ i := by have := (stR_le hv (l.take i)).1; simp only [List.length_take] at this; omega
  replace hnn : Hid _ := hnn
  have hb := stR_le hv (l.take i)
  have hbl : (l.take i).length ≤ 1000000 := by simp; omega
  by_cases hlt : i < l.length
  · have h1 := nat_lt hlt
    have h2 := wrap_succ (i := i) (by omega)
    have h3 : (0 : Int) ≤ (i : Int) := by omega
    obtain ⟨w, hw⟩ := get_some hlt
    have hsn := stR_snoc v (l.take i) w
    rw [← take_step hw] at hsn
    obtain ⟨a, ha, hca, hc⟩ := ((f1 m' X).row (f := WinV.cs) (k := 6) (fun _ => rfl) hw (by omega))
    subst ha
    have hcc : ∀ M, Ext m M → cellsA W0 M (a.add (i * 6)) 6 = some w.cs.toArray ∧ ∀ j u, w.cs[j]? = some u → cellA W0 M ((a.add (i * 6)).add j) = some u := fun M e => by
      obtain ⟨a', ha', hx, hy⟩ := (f1 M e).row (f := WinV.cs) (k := 6) (fun _ => rfl) hw (by omega)
      cases ha'; exact ⟨hx, hy⟩
    have q0 : ∀ M, Ext m M → cellA W0 M ((a.add (i * 6)).add 0) = some (.int .i64 w.kind) := fun M e => (hcc M e).2 0 _ rfl
    have qr : ∀ M, Ext m M → cellsA W0 M (a.add (i * 6)) 6 = some #[.int .i64 w.kind, .int .i64 w.bits, .int .i64 w.words, .int .i64 w.addr, .slice w.fr.A w.fr.l.length w.fr.c, .slice w.to.A w.to.l.length w.to.c] := fun M e => (hcc M e).1
    have q0' := q0 m' X
    have hwl := w.len_le
    have hadd : IntKind.i64.wrap ((stR v (l.take i)).2.1 + w.len) = (stR v (l.take i)).2.1 + w.len := w64 (by omega) (by omega)
    have hmx : nn + 1 ≤ maxLen ∧ (nn + 1) * 8 ≤ 140737488355328 := by unfold maxLen; omega
    have f3 : IntKind.i64.wrap ((stR v (l.take i)).2.1 + 2) = (stR v (l.take i)).2.1 + 2 := w64 (by omega) (by omega)
    have f4 : IntKind.i64.wrap ((stR v (l.take i)).2.1 + 2 - (stR v (l.take i)).2.2) = (stR v (l.take i)).2.1 + 2 - (stR v (l.take i)).2.2 := w64 (by omega) (by omega)
    clear hcc hca hc hw q0
    unfold stepR at hsn
    by_cases hk : w.kind = 2
    · rw [if_pos hk] at hsn
      replace hsn : Hid _ := hsn
      have hk' : (w.kind == 2) = true := by rw [hk]; rfl
      clear hk
      repeat' (first
        | simp (maxSteps := 2000000) only [vcCore, yieldT, Int.reduceEq, Int.reduceLT, Int.reduceLE, Int.reduceNe, not_true_eq_false, decide_true, decide_false, add_lit', Nat.zero_add, Nat.mul_one, Int.toNat_natCast, List.getElem?_toArray, List.getElem?_cons_zero, List.getElem?_cons_succ, Option.bind_some, List.map_cons, List.map_nil, List.map_toArray, Array.append_empty, Array.empty_append, List.append_nil, List.nil_append, List.append_toArray, ↓reduceIte, Nat.reduceEqDiff, Nat.reduceAdd, Nat.reduceLeDiff, List.contains_cons, List.contains_nil, Nat.reduceBEq, Bool.or_false, Bool.false_or, Bool.or_true, Bool.true_or, Bool.false_eq_true, Value.cells, List.size_toArray, List.length_cons, List.length_nil, Option.map_some, Option.map_none, Option.isSome_some, Option.isSome_none, Option.isNone_some, Option.isNone_none, true_and, and_true, ne_eq, reduceCtorEq, not_false_eq_true, Bool.not_true, Bool.not_false, tyAllRW08, then_normal, Int.cast_ofNat_Int, BEq.rfl, bne_self_eq_false, beq_self_eq_true, Bool.and_true, Bool.true_and, Bool.and_false, Bool.false_and, Int.reduceBEq, Int.reduceBNe, Nat.reduceMul, Nat.reduceDiv, Int.reduceToNat, Int.reduceNeg, Int.reduceAdd, Int.reduceSub, Int.reduceMul, ext_lit, Nat.reduceSub, Nat.add_zero, mp2_app, resK_cc, implies_true, imp_self, bb_ft, bb_tf, bb_t, bb_f, bn_t, bn_f, Nat.reduceLT, Mem.set_app, Mem.set_set, Ext_mp1, Ext_two, st_agg, ones_nil, ones_cons, oc_int, oc_bool, oc_str, oc_ptr, oc_sl, oc_map, max_if, min_if, bld_nil, bld_cons, bldStep_some, wr_def, List.take_succ_cons, List.take_zero, List.drop_succ_cons, List.drop_zero, List.cons_append, List.toList_toArray, *]
        | ((first | (with_reducible refine Ret.use (ref07_Bits w) fun m1 e1 => ?_)); (try replace X := X.trans e1); (try replace N1 := N1.later e1); (try (replace o1 := e1 _ _ o1; replace c1 := blk_facts hb1 o1)); (try (replace o2 := e1 _ _ o2; replace c2 := blk_facts hb2 o2)); (try (replace o3 := e1 _ _ o3; replace c3 := blk_facts hb3 o3)))
        | (with_reducible refine Ret.q (fun m1 e1 => ref07_Bits w) ?_)
        | (with_reducible refine Ret.q0 (fun m1 e1 => ref07_Bits w) ?_)
        | ((first | ((with_reducible refine newK_init ?_ ?_ ?_ ?_); (focus (intro b; simp only [ev_tmp, ev_const, upd_app, reduceCtorEq, Nat.reduceEqDiff, Nat.reduceAdd, ↓reduceIte, Value.cells, List.size_toArray, List.length_cons, List.length_nil, st_int, st_bool, st_string, st_pointer, st_slice, st_map, st_agg, ones_nil, ones_cons, oc_int, oc_bool, oc_str, oc_ptr, oc_sl, oc_map, Bool.and_true, tyAllRW08, Option.map_some]; done)); (focus (simp only [ev_tmp, ev_const, upd_app, reduceCtorEq, Nat.reduceEqDiff, Nat.reduceAdd, ↓reduceIte, Value.cells, List.size_toArray, List.length_cons, List.length_nil, st_int, st_bool, st_string, st_pointer, st_slice, st_map, st_agg, ones_nil, ones_cons, oc_int, oc_bool, oc_str, oc_ptr, oc_sl, oc_map, Bool.and_true, tyAllRW08, Option.map_some]; done)); (focus (intro b; simp only [ev_tmp, ev_const, upd_app, reduceCtorEq, Nat.reduceEqDiff, Nat.reduceAdd, ↓reduceIte, Value.cells, List.size_toArray, List.length_cons, List.length_nil, st_int, st_bool, st_string, st_pointer, st_slice, st_map, st_agg, ones_nil, ones_cons, oc_int, oc_bool, oc_str, oc_ptr, oc_sl, oc_map, Bool.and_true, tyAllRW08, Option.map_some]; done))) | ((with_reducible refine newK.id ?_); refine newK_intro ?_) | ((with_reducible refine RunA.id ?_); (first | with_reducible refine rbuild1 sl_76 ze_3 ?_ ?_ ?_ | with_reducible refine rbuild1 sl_135 ze_143 ?_ ?_ ?_); (focus (simp only [Value.cells, List.size_toArray, List.length_cons, List.length_nil]; done)); (focus decide)) | ((first | with_reducible refine bG1 sl_76 ze_3 ?_ ?_ ?_ | with_reducible refine bG1 sl_135 ze_143 ?_ ?_ ?_); (focus (simp only [Value.cells, List.size_toArray, List.length_cons, List.length_nil]; done)); (focus decide)) | ((with_reducible refine RunA.id ?_); (first | with_reducible refine rbuild2 sl_76 ze_3 rfl rfl ?_ | with_reducible refine rbuild2 sl_135 ze_143 rfl rfl ?_)) | (first | with_reducible refine bG2 sl_76 ze_3 rfl rfl ?_ | with_reducible refine bG2 sl_135 ze_143 rfl rfl ?_)); (first | (have := o2; intro b3 m1 hb3 n3 e1 o3; (try (have d31 := ne_of o1 n3; have d13 := d31.symm)); (try (have d32 := ne_of o2 n3; have d23 := d32.symm)); (try have z3 := own_ne N1.own n3); replace n3 := none_of X n3; (try simp only [ev_tmp, ev_const, upd_app, reduceCtorEq, Nat.reduceEqDiff, Nat.reduceAdd, ↓reduceIte, Value.cells, List.size_toArray, List.length_cons, List.length_nil, st_int, st_bool, st_string, st_pointer, st_slice, st_map, st_agg, ones_nil, ones_cons, oc_int, oc_bool, oc_str, oc_ptr, oc_sl, oc_map, Bool.and_true, tyAllRW08, Option.map_some] at o3)) | (have := o1; intro b2 m1 hb2 n2 e1 o2; (try (have d21 := ne_of o1 n2; have d12 := d21.symm)); (try have z2 := own_ne N1.own n2); replace n2 := none_of X n2; (try simp only [ev_tmp, ev_const, upd_app, reduceCtorEq, Nat.reduceEqDiff, Nat.reduceAdd, ↓reduceIte, Value.cells, List.size_toArray, List.length_cons, List.length_nil, st_int, st_bool, st_string, st_pointer, st_slice, st_map, st_agg, ones_nil, ones_cons, oc_int, oc_bool, oc_str, oc_ptr, oc_sl, oc_map, Bool.and_true, tyAllRW08, Option.map_some] at o2)) | (intro b1 m1 hb1 n1 e1 o1; (try have z1 := own_ne N1.own n1); replace n1 := none_of X n1; (try simp only [ev_tmp, ev_const, upd_app, reduceCtorEq, Nat.reduceEqDiff, Nat.reduceAdd, ↓reduceIte, Value.cells, List.size_toArray, List.length_cons, List.length_nil, st_int, st_bool, st_string, st_pointer, st_slice, st_map, st_agg, ones_nil, ones_cons, oc_int, oc_bool, oc_str, oc_ptr, oc_sl, oc_map, Bool.and_true, tyAllRW08, Option.map_some] at o1))); (try replace X := X.trans e1); (try replace N1 := N1.later e1); (try (replace o1 := e1 _ _ o1; replace c1 := blk_facts hb1 o1)); (try (replace o2 := e1 _ _ o2; replace c2 := blk_facts hb2 o2)); (try (replace o3 := e1 _ _ o3; replace c3 := blk_facts hb3 o3)); (try have c1 := blk_facts hb1 o1); (try have c2 := blk_facts hb2 o2); (try have c3 := blk_facts hb3 o3))
        | ((with_reducible refine RunA.id ?_); (first | (first | with_reducible refine app_one sl_76 ze_3 by_3 ⟨rfl, by decide⟩ N1 hb3 o3 ?_ ?_ ?_ ?_ | with_reducible refine app_one sl_135 ze_143 by_143 ⟨rfl, by decide⟩ N1 hb3 o3 ?_ ?_ ?_ ?_) | (first | with_reducible refine app_one sl_76 ze_3 by_3 ⟨rfl, by decide⟩ N1 hb2 o2 ?_ ?_ ?_ ?_ | with_reducible refine app_one sl_135 ze_143 by_143 ⟨rfl, by decide⟩ N1 hb2 o2 ?_ ?_ ?_ ?_) | (first | with_reducible refine app_one sl_76 ze_3 by_3 ⟨rfl, by decide⟩ N1 hb1 o1 ?_ ?_ ?_ ?_ | with_reducible refine app_one sl_135 ze_143 by_143 ⟨rfl, by decide⟩ N1 hb1 o1 ?_ ?_ ?_ ?_)); (focus rfl); (focus (simp only [List.toList_toArray, st_agg, ones_nil, ones_cons, oc_int, oc_bool, oc_str, oc_ptr, oc_sl, oc_map, Bool.and_true]; done)); (focus (constructor <;> first | omega | (simp only [maxLen]; omega))); intro A1 q1 m1 N1 k1; replace X := N1.ext; (try (replace z1 := k1 _ _ o1 z1; replace o1 := z1.1; replace z1 := z1.2; replace c1 := blk_facts hb1 o1)); (try (replace z2 := k1 _ _ o2 z2; replace o2 := z2.1; replace z2 := z2.2; replace c2 := blk_facts hb2 o2)); (try (replace z3 := k1 _ _ o3 z3; replace o3 := z3.1; replace z3 := z3.2; replace c3 := blk_facts hb3 o3)))
        | ((with_reducible refine CodeA.id ?_); (first | fail))
        | ((with_reducible refine And.intro ?_ ?_); (focus omega))
        | with_reducible refine cK_both _ _ _ _ _ _ (fun hc => ?_) (fun hc => ?_)
        | ((with_reducible refine gO_both _ _ (fun hc => ?_) (fun hc => ?_)) <;> (try simp only [Bool.not_true, Bool.not_false] at hc))
        | ((with_reducible refine gH_both _ _ (fun hc => ?_) (fun hc => ?_)) <;> (try simp only [Bool.not_true, Bool.not_false] at hc))
        | with_reducible refine pickK_both _ (fun hc => ?_) (fun hc => ?_))
      have qr' := qr m1 X
      repeat' (first
        | simp (maxSteps := 2000000) only [vcCore, yieldT, Int.reduceEq, Int.reduceLT, Int.reduceLE, Int.reduceNe, not_true_eq_false, decide_true, decide_false, add_lit', Nat.zero_add, Nat.mul_one, Int.toNat_natCast, List.getElem?_toArray, List.getElem?_cons_zero, List.getElem?_cons_succ, Option.bind_some, List.map_cons, List.map_nil, List.map_toArray, Array.append_empty, Array.empty_append, List.append_nil, List.nil_append, List.append_toArray, ↓reduceIte, Nat.reduceEqDiff, Nat.reduceAdd, Nat.reduceLeDiff, List.contains_cons, List.contains_nil, Nat.reduceBEq, Bool.or_false, Bool.false_or, Bool.or_true, Bool.true_or, Bool.false_eq_true, Value.cells, List.size_toArray, List.length_cons, List.length_nil, Option.map_some, Option.map_none, Option.isSome_some, Option.isSome_none, Option.isNone_some, Option.isNone_none, true_and, and_true, ne_eq, reduceCtorEq, not_false_eq_true, Bool.not_true, Bool.not_false, tyAllRW08, then_normal, Int.cast_ofNat_Int, BEq.rfl, bne_self_eq_false, beq_self_eq_true, Bool.and_true, Bool.true_and, Bool.and_false, Bool.false_and, Int.reduceBEq, Int.reduceBNe, Nat.reduceMul, Nat.reduceDiv, Int.reduceToNat, Int.reduceNeg, Int.reduceAdd, Int.reduceSub, Int.reduceMul, ext_lit, Nat.reduceSub, Nat.add_zero, mp2_app, resK_cc, implies_true, imp_self, bb_ft, bb_tf, bb_t, bb_f, bn_t, bn_f, Nat.reduceLT, Mem.set_app, Mem.set_set, Ext_mp1, Ext_two, st_agg, ones_nil, ones_cons, oc_int, oc_bool, oc_str, oc_ptr, oc_sl, oc_map, max_if, min_if, bld_nil, bld_cons, bldStep_some, wr_def, List.take_succ_cons, List.take_zero, List.drop_succ_cons, List.drop_zero, List.cons_append, List.toList_toArray, *]
        | ((first | (with_reducible refine Ret.use (ref07_Bits w) fun m1 e1 => ?_)); (try replace X := X.trans e1); (try replace N1 := N1.later e1); (try (replace o1 := e1 _ _ o1; replace c1 := blk_facts hb1 o1)); (try (replace o2 := e1 _ _ o2; replace c2 := blk_facts hb2 o2)); (try (replace o3 := e1 _ _ o3; replace c3 := blk_facts hb3 o3)))
        | (with_reducible refine Ret.q (fun m1 e1 => ref07_Bits w) ?_)
        | (with_reducible refine Ret.q0 (fun m1 e1 => ref07_Bits w) ?_)
        | ((first | ((with_reducible refine newK_init ?_ ?_ ?_ ?_); (focus (intro b; simp only [ev_tmp, ev_const, upd_app, reduceCtorEq, Nat.reduceEqDiff, Nat.reduceAdd, ↓reduceIte, Value.cells, List.size_toArray, List.length_cons, List.length_nil, st_int, st_bool, st_string, st_pointer, st_slice, st_map, st_agg, ones_nil, ones_cons, oc_int, oc_bool, oc_str, oc_ptr, oc_sl, oc_map, Bool.and_true, tyAllRW08, Option.map_some]; done)); (focus (simp only [ev_tmp, ev_const, upd_app, reduceCtorEq, Nat.reduceEqDiff, Nat.reduceAdd, ↓reduceIte, Value.cells, List.size_toArray, List.length_cons, List.length_nil, st_int, st_bool, st_string, st_pointer, st_slice, st_map, st_agg, ones_nil, ones_cons, oc_int, oc_bool, oc_str, oc_ptr, oc_sl, oc_map, Bool.and_true, tyAllRW08, Option.map_some]; done)); (focus (intro b; simp only [ev_tmp, ev_const, upd_app, reduceCtorEq, Nat.reduceEqDiff, Nat.reduceAdd, ↓reduceIte, Value.cells, List.size_toArray, List.length_cons, List.length_nil, st_int, st_bool, st_string, st_pointer, st_slice, st_map, st_agg, ones_nil, ones_cons, oc_int, oc_bool, oc_str, oc_ptr, oc_sl, oc_map, Bool.and_true, tyAllRW08, Option.map_some]; done))) | ((with_reducible refine newK.id ?_); refine newK_intro ?_) | ((with_reducible refine RunA.id ?_); (first | with_reducible refine rbuild1 sl_76 ze_3 ?_ ?_ ?_ | with_reducible refine rbuild1 sl_135 ze_143 ?_ ?_ ?_); (focus (simp only [Value.cells, List.size_toArray, List.length_cons, List.length_nil]; done)); (focus decide)) | ((first | with_reducible refine bG1 sl_76 ze_3 ?_ ?_ ?_ | with_reducible refine bG1 sl_135 ze_143 ?_ ?_ ?_); (focus (simp only [Value.cells, List.size_toArray, List.length_cons, List.length_nil]; done)); (focus decide)) | ((with_reducible refine RunA.id ?_); (first | with_reducible refine rbuild2 sl_76 ze_3 rfl rfl ?_ | with_reducible refine rbuild2 sl_135 ze_143 rfl rfl ?_)) | (first | with_reducible refine bG2 sl_76 ze_3 rfl rfl ?_ | with_reducible refine bG2 sl_135 ze_143 rfl rfl ?_)); (first | (have := o2; intro b3 m1 hb3 n3 e1 o3; (try (have d31 := ne_of o1 n3; have d13 := d31.symm)); (try (have d32 := ne_of o2 n3; have d23 := d32.symm)); (try have z3 := own_ne N1.own n3); replace n3 := none_of X n3; (try simp only [ev_tmp, ev_const, upd_app, reduceCtorEq, Nat.reduceEqDiff, Nat.reduceAdd, ↓reduceIte, Value.cells, List.size_toArray, List.length_cons, List.length_nil, st_int, st_bool, st_string, st_pointer, st_slice, st_map, st_agg, ones_nil, ones_cons, oc_int, oc_bool, oc_str, oc_ptr, oc_sl, oc_map, Bool.and_true, tyAllRW08, Option.map_some] at o3)) | (have := o1; intro b2 m1 hb2 n2 e1 o2; (try (have d21 := ne_of o1 n2; have d12 := d21.symm)); (try have z2 := own_ne N1.own n2); replace n2 := none_of X n2; (try simp only [ev_tmp, ev_const, upd_app, reduceCtorEq, Nat.reduceEqDiff, Nat.reduceAdd, ↓reduceIte, Value.cells, List.size_toArray, List.length_cons, List.length_nil, st_int, st_bool, st_string, st_pointer, st_slice, st_map, st_agg, ones_nil, ones_cons, oc_int, oc_bool, oc_str, oc_ptr, oc_sl, oc_map, Bool.and_true, tyAllRW08, Option.map_some] at o2)) | (intro b1 m1 hb1 n1 e1 o1; (try have z1 := own_ne N1.own n1); replace n1 := none_of X n1; (try simp only [ev_tmp, ev_const, upd_app, reduceCtorEq, Nat.reduceEqDiff, Nat.reduceAdd, ↓reduceIte, Value.cells, List.size_toArray, List.length_cons, List.length_nil, st_int, st_bool, st_string, st_pointer, st_slice, st_map, st_agg, ones_nil, ones_cons, oc_int, oc_bool, oc_str, oc_ptr, oc_sl, oc_map, Bool.and_true, tyAllRW08, Option.map_some] at o1))); (try replace X := X.trans e1); (try replace N1 := N1.later e1); (try (replace o1 := e1 _ _ o1; replace c1 := blk_facts hb1 o1)); (try (replace o2 := e1 _ _ o2; replace c2 := blk_facts hb2 o2)); (try (replace o3 := e1 _ _ o3; replace c3 := blk_facts hb3 o3)); (try have c1 := blk_facts hb1 o1); (try have c2 := blk_facts hb2 o2); (try have c3 := blk_facts hb3 o3))
        | ((with_reducible refine RunA.id ?_); (first | (first | with_reducible refine app_one sl_76 ze_3 by_3 ⟨rfl, by decide⟩ N1 hb3 o3 ?_ ?_ ?_ ?_ | with_reducible refine app_one sl_135 ze_143 by_143 ⟨rfl, by decide⟩ N1 hb3 o3 ?_ ?_ ?_ ?_) | (first | with_reducible refine app_one sl_76 ze_3 by_3 ⟨rfl, by decide⟩ N1 hb2 o2 ?_ ?_ ?_ ?_ | with_reducible refine app_one sl_135 ze_143 by_143 ⟨rfl, by decide⟩ N1 hb2 o2 ?_ ?_ ?_ ?_) | (first | with_reducible refine app_one sl_76 ze_3 by_3 ⟨rfl, by decide⟩ N1 hb1 o1 ?_ ?_ ?_ ?_ | with_reducible refine app_one sl_135 ze_143 by_143 ⟨rfl, by decide⟩ N1 hb1 o1 ?_ ?_ ?_ ?_)); (focus rfl); (focus (simp only [List.toList_toArray, st_agg, ones_nil, ones_cons, oc_int, oc_bool, oc_str, oc_ptr, oc_sl, oc_map, Bool.and_true]; done)); (focus (constructor <;> first | omega | (simp only [maxLen]; omega))); intro A1 q1 m1 N1 k1; replace X := N1.ext; (try (replace z1 := k1 _ _ o1 z1; replace o1 := z1.1; replace z1 := z1.2; replace c1 := blk_facts hb1 o1)); (try (replace z2 := k1 _ _ o2 z2; replace o2 := z2.1; replace z2 := z2.2; replace c2 := blk_facts hb2 o2)); (try (replace z3 := k1 _ _ o3 z3; replace o3 := z3.1; replace z3 := z3.2; replace c3 := blk_facts hb3 o3)))
        | ((with_reducible refine CodeA.id ?_); (first | fail))
        | ((with_reducible refine And.intro ?_ ?_); (focus omega))
        | with_reducible refine cK_both _ _ _ _ _ _ (fun hc => ?_) (fun hc => ?_)
        | ((with_reducible refine gO_both _ _ (fun hc => ?_) (fun hc => ?_)) <;> (try simp only [Bool.not_true, Bool.not_false] at hc))
        | ((with_reducible refine gH_both _ _ (fun hc => ?_) (fun hc => ?_)) <;> (try simp only [Bool.not_true, Bool.not_false] at hc))
        | with_reducible refine pickK_both _ (fun hc => ?_) (fun hc => ?_))
      replace hsn : stR v (l.take (i + 1)) = ((stR v (l.take i)).1 ++ [(stR v (l.take i)).2.1 + 2 - (stR v (l.take i)).2.2], (stR v (l.take i)).2.1 + w.len, (stR v (l.take i)).2.1 + 2) := hsn
      refine ⟨l.length - (i + 1), by omega, i + 1, A1, q1, nn + 1, by omega, rfl, t0, by rw [hsn]; rfl, by rw [hsn]; rfl, rfl, rfl, by rw [hsn]; simp [show nn = (stR v (l.take i)).1.length from hnn], ?_⟩
      rw [hsn]
      simpa [R.i64] using N1
    · rw [if_neg hk] at hsn
      replace hsn : Hid _ := hsn
      have hk' : (w.kind == 2) = false := beq_no hk
      clear hk
      have qr' := qr m' X
      repeat' (first
        | simp (maxSteps := 2000000) only [vcCore, yieldT, Int.reduceEq, Int.reduceLT, Int.reduceLE, Int.reduceNe, not_true_eq_false, decide_true, decide_false, add_lit', Nat.zero_add, Nat.mul_one, Int.toNat_natCast, List.getElem?_toArray, List.getElem?_cons_zero, List.getElem?_cons_succ, Option.bind_some, List.map_cons, List.map_nil, List.map_toArray, Array.append_empty, Array.empty_append, List.append_nil, List.nil_append, List.append_toArray, ↓reduceIte, Nat.reduceEqDiff, Nat.reduceAdd, Nat.reduceLeDiff, List.contains_cons, List.contains_nil, Nat.reduceBEq, Bool.or_false, Bool.false_or, Bool.or_true, Bool.true_or, Bool.false_eq_true, Value.cells, List.size_toArray, List.length_cons, List.length_nil, Option.map_some, Option.map_none, Option.isSome_some, Option.isSome_none, Option.isNone_some, Option.isNone_none, true_and, and_true, ne_eq, reduceCtorEq, not_false_eq_true, Bool.not_true, Bool.not_false, tyAllRW08, then_normal, Int.cast_ofNat_Int, BEq.rfl, bne_self_eq_false, beq_self_eq_true, Bool.and_true, Bool.true_and, Bool.and_false, Bool.false_and, Int.reduceBEq, Int.reduceBNe, Nat.reduceMul, Nat.reduceDiv, Int.reduceToNat, Int.reduceNeg, Int.reduceAdd, Int.reduceSub, Int.reduceMul, ext_lit, Nat.reduceSub, Nat.add_zero, mp2_app, resK_cc, implies_true, imp_self, bb_ft, bb_tf, bb_t, bb_f, bn_t, bn_f, Nat.reduceLT, Mem.set_app, Mem.set_set, Ext_mp1, Ext_two, st_agg, ones_nil, ones_cons, oc_int, oc_bool, oc_str, oc_ptr, oc_sl, oc_map, max_if, min_if, bld_nil, bld_cons, bldStep_some, wr_def, List.take_succ_cons, List.take_zero, List.drop_succ_cons, List.drop_zero, List.cons_append, List.toList_toArray, *]
        | ((first | (with_reducible refine Ret.use (ref07_Bits w) fun m1 e1 => ?_)); (try replace X := X.trans e1); (try replace N1 := N1.later e1); (try (replace o1 := e1 _ _ o1; replace c1 := blk_facts hb1 o1)); (try (replace o2 := e1 _ _ o2; replace c2 := blk_facts hb2 o2)); (try (replace o3 := e1 _ _ o3; replace c3 := blk_facts hb3 o3)))
        | (with_reducible refine Ret.q (fun m1 e1 => ref07_Bits w) ?_)
        | (with_reducible refine Ret.q0 (fun m1 e1 => ref07_Bits w) ?_)
        | ((first | ((with_reducible refine newK_init ?_ ?_ ?_ ?_); (focus (intro b; simp only [ev_tmp, ev_const, upd_app, reduceCtorEq, Nat.reduceEqDiff, Nat.reduceAdd, ↓reduceIte, Value.cells, List.size_toArray, List.length_cons, List.length_nil, st_int, st_bool, st_string, st_pointer, st_slice, st_map, st_agg, ones_nil, ones_cons, oc_int, oc_bool, oc_str, oc_ptr, oc_sl, oc_map, Bool.and_true, tyAllRW08, Option.map_some]; done)); (focus (simp only [ev_tmp, ev_const, upd_app, reduceCtorEq, Nat.reduceEqDiff, Nat.reduceAdd, ↓reduceIte, Value.cells, List.size_toArray, List.length_cons, List.length_nil, st_int, st_bool, st_string, st_pointer, st_slice, st_map, st_agg, ones_nil, ones_cons, oc_int, oc_bool, oc_str, oc_ptr, oc_sl, oc_map, Bool.and_true, tyAllRW08, Option.map_some]; done)); (focus (intro b; simp only [ev_tmp, ev_const, upd_app, reduceCtorEq, Nat.reduceEqDiff, Nat.reduceAdd, ↓reduceIte, Value.cells, List.size_toArray, List.length_cons, List.length_nil, st_int, st_bool, st_string, st_pointer, st_slice, st_map, st_agg, ones_nil, ones_cons, oc_int, oc_bool, oc_str, oc_ptr, oc_sl, oc_map, Bool.and_true, tyAllRW08, Option.map_some]; done))) | ((with_reducible refine newK.id ?_); refine newK_intro ?_) | ((with_reducible refine RunA.id ?_); (first | with_reducible refine rbuild1 sl_76 ze_3 ?_ ?_ ?_ | with_reducible refine rbuild1 sl_135 ze_143 ?_ ?_ ?_); (focus (simp only [Value.cells, List.size_toArray, List.length_cons, List.length_nil]; done)); (focus decide)) | ((first | with_reducible refine bG1 sl_76 ze_3 ?_ ?_ ?_ | with_reducible refine bG1 sl_135 ze_143 ?_ ?_ ?_); (focus (simp only [Value.cells, List.size_toArray, List.length_cons, List.length_nil]; done)); (focus decide)) | ((with_reducible refine RunA.id ?_); (first | with_reducible refine rbuild2 sl_76 ze_3 rfl rfl ?_ | with_reducible refine rbuild2 sl_135 ze_143 rfl rfl ?_)) | (first | with_reducible refine bG2 sl_76 ze_3 rfl rfl ?_ | with_reducible refine bG2 sl_135 ze_143 rfl rfl ?_)); (first | (have := o2; intro b3 m1 hb3 n3 e1 o3; (try (have d31 := ne_of o1 n3; have d13 := d31.symm)); (try (have d32 := ne_of o2 n3; have d23 := d32.symm)); (try have z3 := own_ne N1.own n3); replace n3 := none_of X n3; (try simp only [ev_tmp, ev_const, upd_app, reduceCtorEq, Nat.reduceEqDiff, Nat.reduceAdd, ↓reduceIte, Value.cells, List.size_toArray, List.length_cons, List.length_nil, st_int, st_bool, st_string, st_pointer, st_slice, st_map, st_agg, ones_nil, ones_cons, oc_int, oc_bool, oc_str, oc_ptr, oc_sl, oc_map, Bool.and_true, tyAllRW08, Option.map_some] at o3)) | (have := o1; intro b2 m1 hb2 n2 e1 o2; (try (have d21 := ne_of o1 n2; have d12 := d21.symm)); (try have z2 := own_ne N1.own n2); replace n2 := none_of X n2; (try simp only [ev_tmp, ev_const, upd_app, reduceCtorEq, Nat.reduceEqDiff, Nat.reduceAdd, ↓reduceIte, Value.cells, List.size_toArray, List.length_cons, List.length_nil, st_int, st_bool, st_string, st_pointer, st_slice, st_map, st_agg, ones_nil, ones_cons, oc_int, oc_bool, oc_str, oc_ptr, oc_sl, oc_map, Bool.and_true, tyAllRW08, Option.map_some] at o2)) | (intro b1 m1 hb1 n1 e1 o1; (try have z1 := own_ne N1.own n1); replace n1 := none_of X n1; (try simp only [ev_tmp, ev_const, upd_app, reduceCtorEq, Nat.reduceEqDiff, Nat.reduceAdd, ↓reduceIte, Value.cells, List.size_toArray, List.length_cons, List.length_nil, st_int, st_bool, st_string, st_pointer, st_slice, st_map, st_agg, ones_nil, ones_cons, oc_int, oc_bool, oc_str, oc_ptr, oc_sl, oc_map, Bool.and_true, tyAllRW08, Option.map_some] at o1))); (try replace X := X.trans e1); (try replace N1 := N1.later e1); (try (replace o1 := e1 _ _ o1; replace c1 := blk_facts hb1 o1)); (try (replace o2 := e1 _ _ o2; replace c2 := blk_facts hb2 o2)); (try (replace o3 := e1 _ _ o3; replace c3 := blk_facts hb3 o3)); (try have c1 := blk_facts hb1 o1); (try have c2 := blk_facts hb2 o2); (try have c3 := blk_facts hb3 o3))
        | ((with_reducible refine RunA.id ?_); (first | (first | with_reducible refine app_one sl_76 ze_3 by_3 ⟨rfl, by decide⟩ N1 hb3 o3 ?_ ?_ ?_ ?_ | with_reducible refine app_one sl_135 ze_143 by_143 ⟨rfl, by decide⟩ N1 hb3 o3 ?_ ?_ ?_ ?_) | (first | with_reducible refine app_one sl_76 ze_3 by_3 ⟨rfl, by decide⟩ N1 hb2 o2 ?_ ?_ ?_ ?_ | with_reducible refine app_one sl_135 ze_143 by_143 ⟨rfl, by decide⟩ N1 hb2 o2 ?_ ?_ ?_ ?_) | (first | with_reducible refine app_one sl_76 ze_3 by_3 ⟨rfl, by decide⟩ N1 hb1 o1 ?_ ?_ ?_ ?_ | with_reducible refine app_one sl_135 ze_143 by_143 ⟨rfl, by decide⟩ N1 hb1 o1 ?_ ?_ ?_ ?_)); (focus rfl); (focus (simp only [List.toList_toArray, st_agg, ones_nil, ones_cons, oc_int, oc_bool, oc_str, oc_ptr, oc_sl, oc_map, Bool.and_true]; done)); (focus (constructor <;> first | omega | (simp only [maxLen]; omega))); intro A1 q1 m1 N1 k1; replace X := N1.ext; (try (replace z1 := k1 _ _ o1 z1; replace o1 := z1.1; replace z1 := z1.2; replace c1 := blk_facts hb1 o1)); (try (replace z2 := k1 _ _ o2 z2; replace o2 := z2.1; replace z2 := z2.2; replace c2 := blk_facts hb2 o2)); (try (replace z3 := k1 _ _ o3 z3; replace o3 := z3.1; replace z3 := z3.2; replace c3 := blk_facts hb3 o3)))
        | ((with_reducible refine CodeA.id ?_); (first | fail))
        | ((with_reducible refine And.intro ?_ ?_); (focus omega))
        | with_reducible refine cK_both _ _ _ _ _ _ (fun hc => ?_) (fun hc => ?_)
        | ((with_reducible refine gO_both _ _ (fun hc => ?_) (fun hc => ?_)) <;> (try simp only [Bool.not_true, Bool.not_false] at hc))
        | ((with_reducible refine gH_both _ _ (fun hc => ?_) (fun hc => ?_)) <;> (try simp only [Bool.not_true, Bool.not_false] at hc))
        | with_reducible refine pickK_both _ (fun hc => ?_) (fun hc => ?_))
      replace hsn : stR v (l.take (i + 1)) = ((stR v (l.take i)).1, (stR v (l.take i)).2.1 + w.len, (stR v (l.take i)).2.2) := hsn
      exact ⟨l.length - (i + 1), by omega, i + 1, A1, q1, nn, by omega, rfl, t0, by rw [hsn]; rfl, by rw [hsn]; exact t6, t7, rfl, by rw [hsn]; exact hnn, by rw [hsn]; exact N1⟩
  · have h1 := nat_not_lt hlt
    replace hnn : nn = (stR v (l.take i)).1.length := hnn
    rw [List.take_of_length_le (by omega)] at t5 t6 hnn N1 hb
    replace hnn : Hid _ := hnn
    have f5 : IntKind.i64.wrap ((stR v l).2.1 + 6) = (stR v l).2.1 + 6 := w64 (by omega) (by omega)
    have f6 : IntKind.i64.wrap ((stR v l).2.1 + 6 + 3) = (stR v l).2.1 + 9 := by rw [w64 (by omega) (by omega)]; omega
    have f7 : IntKind.i64.wrap ((stR v l).2.1 + 9 - (stR v l).2.2) = (stR v l).2.1 + 9 - (stR v l).2.2 := w64 (by omega) (by omega)
    have hmx : nn + 1 ≤ maxLen ∧ (nn + 1) * 8 ≤ 140737488355328 := by unfold maxLen; omega
    repeat' (first
      | simp (maxSteps := 2000000) only [vcCore, yieldT, Int.reduceEq, Int.reduceLT, Int.reduceLE, Int.reduceNe, not_true_eq_false, decide_true, decide_false, add_lit', Nat.zero_add, Nat.mul_one, Int.toNat_natCast, List.getElem?_toArray, List.getElem?_cons_zero, List.getElem?_cons_succ, Option.bind_some, List.map_cons, List.map_nil, List.map_toArray, Array.append_empty, Array.empty_append, List.append_nil, List.nil_append, List.append_toArray, ↓reduceIte, Nat.reduceEqDiff, Nat.reduceAdd, Nat.reduceLeDiff, List.contains_cons, List.contains_nil, Nat.reduceBEq, Bool.or_false, Bool.false_or, Bool.or_true, Bool.true_or, Bool.false_eq_true, Value.cells, List.size_toArray, List.length_cons, List.length_nil, Option.map_some, Option.map_none, Option.isSome_some, Option.isSome_none, Option.isNone_some, Option.isNone_none, true_and, and_true, ne_eq, reduceCtorEq, not_false_eq_true, Bool.not_true, Bool.not_false, tyAllRW08, then_normal, Int.cast_ofNat_Int, BEq.rfl, bne_self_eq_false, beq_self_eq_true, Bool.and_true, Bool.true_and, Bool.and_false, Bool.false_and, Int.reduceBEq, Int.reduceBNe, Nat.reduceMul, Nat.reduceDiv, Int.reduceToNat, Int.reduceNeg, Int.reduceAdd, Int.reduceSub, Int.reduceMul, ext_lit, Nat.reduceSub, Nat.add_zero, mp2_app, resK_cc, implies_true, imp_self, bb_ft, bb_tf, bb_t, bb_f, bn_t, bn_f, Nat.reduceLT, Mem.set_app, Mem.set_set, Ext_mp1, Ext_two, st_agg, ones_nil, ones_cons, oc_int, oc_bool, oc_str, oc_ptr, oc_sl, oc_map, max_if, min_if, bld_nil, bld_cons, bldStep_some, wr_def, List.take_succ_cons, List.take_zero, List.drop_succ_cons, List.drop_zero, List.cons_append, List.toList_toArray, *]
      | ((first | ((with_reducible refine newK_init ?_ ?_ ?_ ?_); (focus (intro b; simp only [ev_tmp, ev_const, upd_app, reduceCtorEq, Nat.reduceEqDiff, Nat.reduceAdd, ↓reduceIte, Value.cells, List.size_toArray, List.length_cons, List.length_nil, st_int, st_bool, st_string, st_pointer, st_slice, st_map, st_agg, ones_nil, ones_cons, oc_int, oc_bool, oc_str, oc_ptr, oc_sl, oc_map, Bool.and_true, tyAllRW08, Option.map_some]; done)); (focus (simp only [ev_tmp, ev_const, upd_app, reduceCtorEq, Nat.reduceEqDiff, Nat.reduceAdd, ↓reduceIte, Value.cells, List.size_toArray, List.length_cons, List.length_nil, st_int, st_bool, st_string, st_pointer, st_slice, st_map, st_agg, ones_nil, ones_cons, oc_int, oc_bool, oc_str, oc_ptr, oc_sl, oc_map, Bool.and_true, tyAllRW08, Option.map_some]; done)); (focus (intro b; simp only [ev_tmp, ev_const, upd_app, reduceCtorEq, Nat.reduceEqDiff, Nat.reduceAdd, ↓reduceIte, Value.cells, List.size_toArray, List.length_cons, List.length_nil, st_int, st_bool, st_string, st_pointer, st_slice, st_map, st_agg, ones_nil, ones_cons, oc_int, oc_bool, oc_str, oc_ptr, oc_sl, oc_map, Bool.and_true, tyAllRW08, Option.map_some]; done))) | ((with_reducible refine newK.id ?_); refine newK_intro ?_) | ((with_reducible refine RunA.id ?_); (first | with_reducible refine rbuild1 sl_76 ze_3 ?_ ?_ ?_ | with_reducible refine rbuild1 sl_135 ze_143 ?_ ?_ ?_); (focus (simp only [Value.cells, List.size_toArray, List.length_cons, List.length_nil]; done)); (focus decide)) | ((first | with_reducible refine bG1 sl_76 ze_3 ?_ ?_ ?_ | with_reducible refine bG1 sl_135 ze_143 ?_ ?_ ?_); (focus (simp only [Value.cells, List.size_toArray, List.length_cons, List.length_nil]; done)); (focus decide)) | ((with_reducible refine RunA.id ?_); (first | with_reducible refine rbuild2 sl_76 ze_3 rfl rfl ?_ | with_reducible refine rbuild2 sl_135 ze_143 rfl rfl ?_)) | (first | with_reducible refine bG2 sl_76 ze_3 rfl rfl ?_ | with_reducible refine bG2 sl_135 ze_143 rfl rfl ?_)); (first | (have := o2; intro b3 m1 hb3 n3 e1 o3; (try (have d31 := ne_of o1 n3; have d13 := d31.symm)); (try (have d32 := ne_of o2 n3; have d23 := d32.symm)); (try have z3 := own_ne N1.own n3); replace n3 := none_of X n3; (try simp only [ev_tmp, ev_const, upd_app, reduceCtorEq, Nat.reduceEqDiff, Nat.reduceAdd, ↓reduceIte, Value.cells, List.size_toArray, List.length_cons, List.length_nil, st_int, st_bool, st_string, st_pointer, st_slice, st_map, st_agg, ones_nil, ones_cons, oc_int, oc_bool, oc_str, oc_ptr, oc_sl, oc_map, Bool.and_true, tyAllRW08, Option.map_some] at o3)) | (have := o1; intro b2 m1 hb2 n2 e1 o2; (try (have d21 := ne_of o1 n2; have d12 := d21.symm)); (try have z2 := own_ne N1.own n2); replace n2 := none_of X n2; (try simp only [ev_tmp, ev_const, upd_app, reduceCtorEq, Nat.reduceEqDiff, Nat.reduceAdd, ↓reduceIte, Value.cells, List.size_toArray, List.length_cons, List.length_nil, st_int, st_bool, st_string, st_pointer, st_slice, st_map, st_agg, ones_nil, ones_cons, oc_int, oc_bool, oc_str, oc_ptr, oc_sl, oc_map, Bool.and_true, tyAllRW08, Option.map_some] at o2)) | (intro b1 m1 hb1 n1 e1 o1; (try have z1 := own_ne N1.own n1); replace n1 := none_of X n1; (try simp only [ev_tmp, ev_const, upd_app, reduceCtorEq, Nat.reduceEqDiff, Nat.reduceAdd, ↓reduceIte, Value.cells, List.size_toArray, List.length_cons, List.length_nil, st_int, st_bool, st_string, st_pointer, st_slice, st_map, st_agg, ones_nil, ones_cons, oc_int, oc_bool, oc_str, oc_ptr, oc_sl, oc_map, Bool.and_true, tyAllRW08, Option.map_some] at o1))); (try replace X := X.trans e1); (try replace N1 := N1.later e1); (try (replace o1 := e1 _ _ o1; replace c1 := blk_facts hb1 o1)); (try (replace o2 := e1 _ _ o2; replace c2 := blk_facts hb2 o2)); (try (replace o3 := e1 _ _ o3; replace c3 := blk_facts hb3 o3)); (try have c1 := blk_facts hb1 o1); (try have c2 := blk_facts hb2 o2); (try have c3 := blk_facts hb3 o3))
      | ((with_reducible refine RunA.id ?_); (first | (first | with_reducible refine app_one sl_76 ze_3 by_3 ⟨rfl, by decide⟩ N1 hb3 o3 ?_ ?_ ?_ ?_ | with_reducible refine app_one sl_135 ze_143 by_143 ⟨rfl, by decide⟩ N1 hb3 o3 ?_ ?_ ?_ ?_) | (first | with_reducible refine app_one sl_76 ze_3 by_3 ⟨rfl, by decide⟩ N1 hb2 o2 ?_ ?_ ?_ ?_ | with_reducible refine app_one sl_135 ze_143 by_143 ⟨rfl, by decide⟩ N1 hb2 o2 ?_ ?_ ?_ ?_) | (first | with_reducible refine app_one sl_76 ze_3 by_3 ⟨rfl, by decide⟩ N1 hb1 o1 ?_ ?_ ?_ ?_ | with_reducible refine app_one sl_135 ze_143 by_143 ⟨rfl, by decide⟩ N1 hb1 o1 ?_ ?_ ?_ ?_)); (focus rfl); (focus (simp only [List.toList_toArray, st_agg, ones_nil, ones_cons, oc_int, oc_bool, oc_str, oc_ptr, oc_sl, oc_map, Bool.and_true]; done)); (focus (constructor <;> first | omega | (simp only [maxLen]; omega))); intro A1 q1 m1 N1 k1; replace X := N1.ext; (try (replace z1 := k1 _ _ o1 z1; replace o1 := z1.1; replace z1 := z1.2; replace c1 := blk_facts hb1 o1)); (try (replace z2 := k1 _ _ o2 z2; replace o2 := z2.1; replace z2 := z2.2; replace c2 := blk_facts hb2 o2)); (try (replace z3 := k1 _ _ o3 z3; replace o3 := z3.1; replace z3 := z3.2; replace c3 := blk_facts hb3 o3)))
      | ((with_reducible refine CodeA.id ?_); (first | fail))
      | ((with_reducible refine And.intro ?_ ?_); (focus omega))
      | with_reducible refine cK_both _ _ _ _ _ _ (fun hc => ?_) (fun hc => ?_)
      | ((with_reducible refine gO_both _ _ (fun hc => ?_) (fun hc => ?_)) <;> (try simp only [Bool.not_true, Bool.not_false] at hc))
      | ((with_reducible refine gH_both _ _ (fun hc => ?_) (fun hc => ?_)) <;> (try simp only [Bool.not_true, Bool.not_false] at hc))
      | with_reducible refine pickK_both _ (fun hc => ?_) (fun hc => ?_))
    have hh := h A1 q1 m1
    have e9 : (spansOf v l).length = nn + 1 := by simp [spansOf, show nn = (stR v l).1.length from hnn]
    rw [e9] at hh
    refine hh ?_
    simpa [R.i64, spansOf] using N1
end
end Go.Proofs.Ytapppaccnkojkaa.R
