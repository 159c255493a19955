/- Layer 31 (load): writes, Addrs, Clashes. No conditions. -/
import Derived.Test.YtcddhbhdpleppaaRZ
import Derived.Test.YtcddhbhdpleppaaSLoadTellsRW31d
set_option linter.unusedVariables false
set_option linter.unusedSimpArgs false
namespace Go.Proofs.Ytcddhbhdpleppaa.R
open Go Go.RowKit Go.Proofs.Ytcddhbhdpleppaa
set_option maxRecDepth 100000
set_option maxHeartbeats 8000000
theorem tyAllRW31e : type_of% (And.intro (And.intro (And.intro ty_1 (And.intro ty_3 ty_4)) (And.intro ty_38 (And.intro ty_47 ty_48))) (And.intro (And.intro ty_49 (And.intro ty_50 ty_55)) (And.intro ty_56 (And.intro ty_151 ty_154)))) := (And.intro (And.intro (And.intro ty_1 (And.intro ty_3 ty_4)) (And.intro ty_38 (And.intro ty_47 ty_48))) (And.intro (And.intro ty_49 (And.intro ty_50 ty_55)) (And.intro ty_56 (And.intro ty_151 ty_154))))
section
variable {W0 : World}
def wrF (S : SchV) (v : Int) : Nat → Int := if okL S v then cntW (S.fr v).l else fun _ => 0
theorem ones_i64 (l : List Int) : ones (i64 l) = true := by
  induction l with
  | nil => rfl
  | cons x l ih => exact ih
theorem load_writes {m : Mem} {S : SchV} {v : Int} (f : ∀ M, SchR W0 M S) : Ret Try.prog W0 128 #[S.v, .int .i64 v] m (tabV (wrF S v)) := by
  cases ho : okL S v
  · have e : wrF S v = fun _ => 0 := by unfold wrF; rw [ho]; rfl
    rw [e]
    have rN : ∀ M, ∀ x c, Ret Try.prog W0 123 #[.agg #[.int .i64 S.mods, .slice S.f0.A S.f0.l.length S.f0.c, .slice S.f1.A S.f1.l.length S.f1.c], .int .i64 v, .func (.func 163) x c] M (.int .i64 0) := fun M x c => load_sum_no (f M) (okL_no ho)
    clear f e
    refine ⟨fun K h => ?_⟩
    refine en_128 (l := [S.v, .int .i64 v]) (by simp [Try.ntmps128]) ?_
    have X : Ext m m := Ext.refl m
    simp (maxSteps := 2000000) only [Try.f128, Option.getD_some, vcCore, vcPlain, yieldT, Int.reduceEq, Int.reduceLT, Int.reduceLE, Int.reduceNe, ↓reduceIte, Nat.reduceEqDiff, Nat.reduceAdd, Nat.reduceLeDiff, Nat.reduceBEq, Value.cells, reduceCtorEq, tyAllRW31e, then_normal, Int.reduceBEq, Int.reduceBNe, Nat.reduceMul, Nat.reduceDiv, Int.reduceToNat, Int.reduceNeg, Int.reduceAdd, Int.reduceSub, Int.reduceMul, Nat.reduceSub, Nat.reduceLT, implies_true, imp_self, cvCore, SchV.v]
    repeat' (first | simp (maxSteps := 2000000) only [vcCore, vcPlain, yieldT, Int.reduceEq, Int.reduceLT, Int.reduceLE, Int.reduceNe, ↓reduceIte, Nat.reduceEqDiff, Nat.reduceAdd, Nat.reduceLeDiff, Nat.reduceBEq, Value.cells, reduceCtorEq, tyAllRW31e, then_normal, Int.reduceBEq, Int.reduceBNe, Nat.reduceMul, Nat.reduceDiv, Int.reduceToNat, Int.reduceNeg, Int.reduceAdd, Int.reduceSub, Int.reduceMul, Nat.reduceSub, Nat.reduceLT, implies_true, imp_self, cvCore, *] | ((with_reducible refine CodeA.id ?_); (first | fail)) | ((with_reducible refine And.intro ?_ ?_); (focus omega)) | with_reducible refine cK_both _ _ _ _ _ _ (fun hc => ?_) (fun hc => ?_) | ((with_reducible refine gO_both _ _ (fun hc => ?_) (fun hc => ?_)) <;> (try simp only [Bool.not_true, Bool.not_false] at hc)) | ((with_reducible refine gH_both _ _ (fun hc => ?_) (fun hc => ?_)) <;> (try simp only [Bool.not_true, Bool.not_false] at hc)) | with_reducible refine pickK_both _ (fun hc => ?_) (fun hc => ?_))
    refine newK_intro fun b1 m1 hb1 n1 e1 o1' => ?_
    have o1 : m1 b1 = some (.cells #[.int .i64 S.mods, .slice S.f0.A S.f0.l.length S.f0.c, .slice S.f1.A S.f1.l.length S.f1.c] 50) := o1'
    replace X := X.trans e1
    clear o1' e1
    repeat' (first | simp (maxSteps := 2000000) only [vcCore, vcPlain, yieldT, Int.reduceEq, Int.reduceLT, Int.reduceLE, Int.reduceNe, ↓reduceIte, Nat.reduceEqDiff, Nat.reduceAdd, Nat.reduceLeDiff, Nat.reduceBEq, Value.cells, reduceCtorEq, tyAllRW31e, then_normal, Int.reduceBEq, Int.reduceBNe, Nat.reduceMul, Nat.reduceDiv, Int.reduceToNat, Int.reduceNeg, Int.reduceAdd, Int.reduceSub, Int.reduceMul, Nat.reduceSub, Nat.reduceLT, implies_true, imp_self, cvCore, *] | ((with_reducible refine CodeA.id ?_); (first | fail)) | ((with_reducible refine And.intro ?_ ?_); (focus omega)) | with_reducible refine cK_both _ _ _ _ _ _ (fun hc => ?_) (fun hc => ?_) | ((with_reducible refine gO_both _ _ (fun hc => ?_) (fun hc => ?_)) <;> (try simp only [Bool.not_true, Bool.not_false] at hc)) | ((with_reducible refine gH_both _ _ (fun hc => ?_) (fun hc => ?_)) <;> (try simp only [Bool.not_true, Bool.not_false] at hc)) | with_reducible refine pickK_both _ (fun hc => ?_) (fun hc => ?_))
    refine newK_intro fun b2 m2 hb2 n2 e1 o2' => ?_
    have o2 : m2 b2 = some (.cells (i64 (tabI fun _ => 0)).toArray 154) := o2'.trans (congrArg (fun z => some (Obj.cells z 154 (0, 0))) (by kernel_rfl))
    have hsz : (i64 (tabI fun _ => 0)).length = 64 := by simp [i64, tabI_length]
    generalize hT : tabI (fun _ => 0) = T at *
    have hon := ones_i64 T
    replace hT : Hid _ := hT
    have o1p := o1
    have X0 := X
    replace o1 := e1 _ _ o1
    replace X := X.trans e1
    have d21 : b2 ≠ b1 := by rintro rfl; rw [o1p] at n2; cases n2
    replace n2 := none_of X0 n2
    have d12 := d21.symm
    clear o2' e1 o1p X0
    have c1 := blk_facts hb1 o1
    have c2 := blk_facts hb2 o2
    repeat' (first | simp (maxSteps := 2000000) only [vcCore, vcPlain, yieldT, Int.reduceEq, Int.reduceLT, Int.reduceLE, Int.reduceNe, ↓reduceIte, Nat.reduceEqDiff, Nat.reduceAdd, Nat.reduceLeDiff, Nat.reduceBEq, Value.cells, reduceCtorEq, tyAllRW31e, then_normal, Int.reduceBEq, Int.reduceBNe, Nat.reduceMul, Nat.reduceDiv, Int.reduceToNat, Int.reduceNeg, Int.reduceAdd, Int.reduceSub, Int.reduceMul, Nat.reduceSub, Nat.reduceLT, implies_true, imp_self, cvCore, *] | (rw [mset_eq b1]; generalize hM : mset _ b1 _ = mS; (try replace X := set_X hM X n1); (first | replace KP := KP_self hM KP | replace KP := KP_set hM KP n1 | skip); (try replace N1 := set_N hM N1 n1 z1); (try (replace o2 := set_o hM o2 d21; replace c2 := blk_facts hb2 o2)); replace o1 := set_same hM; clear hM; replace c1 := blk_facts hb1 o1) | (rw [mset_eq b2]; generalize hM : mset _ b2 _ = mS; (try replace X := set_X hM X n2); (first | replace KP := KP_self hM KP | replace KP := KP_set hM KP n2 | skip); (try replace N1 := set_N hM N1 n2 z2); (try (replace o1 := set_o hM o1 d12; replace c1 := blk_facts hb1 o1)); replace o2 := set_same hM; clear hM; replace c2 := blk_facts hb2 o2) | ((first | (with_reducible refine Ret.use (rN _ _ _) fun m1 e1 => ?_)); (try replace X := X.trans e1); (try replace N1 := N1.later e1); (try (replace o1 := e1 _ _ o1; replace c1 := blk_facts hb1 o1)); (try (replace o2 := e1 _ _ o2; replace c2 := blk_facts hb2 o2))) | (with_reducible refine Ret.q (fun m1 e1 => rN _ _ _) ?_) | (with_reducible refine Ret.q0 (fun m1 e1 => rN _ _ _) ?_) | ((with_reducible refine CodeA.id ?_); (first | fail)) | ((with_reducible refine And.intro ?_ ?_); (focus omega)) | with_reducible refine cK_both _ _ _ _ _ _ (fun hc => ?_) (fun hc => ?_) | ((with_reducible refine gO_both _ _ (fun hc => ?_) (fun hc => ?_)) <;> (try simp only [Bool.not_true, Bool.not_false] at hc)) | ((with_reducible refine gH_both _ _ (fun hc => ?_) (fun hc => ?_)) <;> (try simp only [Bool.not_true, Bool.not_false] at hc)) | with_reducible refine pickK_both _ (fun hc => ?_) (fun hc => ?_))
    rw [show List.drop 64 (i64 T) = [] from List.drop_eq_nil_of_le (by omega), List.append_nil] at o2
    rw [cellsA_block hb2 o2 (by simpa using hsz), aggK_some]
    rw [← show tabI (fun _ => 0) = T from hT]
    exact h _ X
  · have e : wrF S v = cntW (S.fr v).l := by unfold wrF; rw [ho]; rfl
    rw [e]
    obtain ⟨hv, hc⟩ := okL_yes ho
    replace hv : Hid _ := hv
    replace hc : Hid _ := hc
    have fh : Hid (∀ M, SchR W0 M S) := f
    clear f
    clear e
    refine ⟨fun K h => ?_⟩
    refine en_128 (l := [S.v, .int .i64 v]) (by simp [Try.ntmps128]) ?_
    have X : Ext m m := Ext.refl m
    simp (maxSteps := 2000000) only [Try.f128, Option.getD_some, vcCore, vcPlain, yieldT, Int.reduceEq, Int.reduceLT, Int.reduceLE, Int.reduceNe, ↓reduceIte, Nat.reduceEqDiff, Nat.reduceAdd, Nat.reduceLeDiff, Nat.reduceBEq, Value.cells, reduceCtorEq, tyAllRW31e, then_normal, Int.reduceBEq, Int.reduceBNe, Nat.reduceMul, Nat.reduceDiv, Int.reduceToNat, Int.reduceNeg, Int.reduceAdd, Int.reduceSub, Int.reduceMul, Nat.reduceSub, Nat.reduceLT, implies_true, imp_self, cvCore, SchV.v]
    repeat' (first | simp (maxSteps := 2000000) only [vcCore, vcPlain, yieldT, Int.reduceEq, Int.reduceLT, Int.reduceLE, Int.reduceNe, ↓reduceIte, Nat.reduceEqDiff, Nat.reduceAdd, Nat.reduceLeDiff, Nat.reduceBEq, Value.cells, reduceCtorEq, tyAllRW31e, then_normal, Int.reduceBEq, Int.reduceBNe, Nat.reduceMul, Nat.reduceDiv, Int.reduceToNat, Int.reduceNeg, Int.reduceAdd, Int.reduceSub, Int.reduceMul, Nat.reduceSub, Nat.reduceLT, implies_true, imp_self, cvCore, *] | ((with_reducible refine CodeA.id ?_); (first | fail)) | ((with_reducible refine And.intro ?_ ?_); (focus omega)) | with_reducible refine cK_both _ _ _ _ _ _ (fun hc => ?_) (fun hc => ?_) | ((with_reducible refine gO_both _ _ (fun hc => ?_) (fun hc => ?_)) <;> (try simp only [Bool.not_true, Bool.not_false] at hc)) | ((with_reducible refine gH_both _ _ (fun hc => ?_) (fun hc => ?_)) <;> (try simp only [Bool.not_true, Bool.not_false] at hc)) | with_reducible refine pickK_both _ (fun hc => ?_) (fun hc => ?_))
    refine newK_intro fun b1 m1 hb1 n1 e1 o1' => ?_
    have o1 : m1 b1 = some (.cells #[.int .i64 S.mods, .slice S.f0.A S.f0.l.length S.f0.c, .slice S.f1.A S.f1.l.length S.f1.c] 50) := o1'
    replace X := X.trans e1
    clear o1' e1
    repeat' (first | simp (maxSteps := 2000000) only [vcCore, vcPlain, yieldT, Int.reduceEq, Int.reduceLT, Int.reduceLE, Int.reduceNe, ↓reduceIte, Nat.reduceEqDiff, Nat.reduceAdd, Nat.reduceLeDiff, Nat.reduceBEq, Value.cells, reduceCtorEq, tyAllRW31e, then_normal, Int.reduceBEq, Int.reduceBNe, Nat.reduceMul, Nat.reduceDiv, Int.reduceToNat, Int.reduceNeg, Int.reduceAdd, Int.reduceSub, Int.reduceMul, Nat.reduceSub, Nat.reduceLT, implies_true, imp_self, cvCore, *] | ((with_reducible refine CodeA.id ?_); (first | fail)) | ((with_reducible refine And.intro ?_ ?_); (focus omega)) | with_reducible refine cK_both _ _ _ _ _ _ (fun hc => ?_) (fun hc => ?_) | ((with_reducible refine gO_both _ _ (fun hc => ?_) (fun hc => ?_)) <;> (try simp only [Bool.not_true, Bool.not_false] at hc)) | ((with_reducible refine gH_both _ _ (fun hc => ?_) (fun hc => ?_)) <;> (try simp only [Bool.not_true, Bool.not_false] at hc)) | with_reducible refine pickK_both _ (fun hc => ?_) (fun hc => ?_))
    refine newK_intro fun b2 m2 hb2 n2 e1 o2' => ?_
    have o2 : m2 b2 = some (.cells (i64 (tabI fun _ => 0)).toArray 154) := o2'.trans (congrArg (fun z => some (Obj.cells z 154 (0, 0))) (by kernel_rfl))
    have hsz : (i64 (tabI fun _ => 0)).length = 64 := by simp [i64, tabI_length]
    generalize hT : tabI (fun _ => 0) = T at *
    have hon := ones_i64 T
    replace hT : Hid _ := hT
    have o1p := o1
    have X0 := X
    replace o1 := e1 _ _ o1
    replace X := X.trans e1
    have d21 : b2 ≠ b1 := by rintro rfl; rw [o1p] at n2; cases n2
    replace n2 := none_of X0 n2
    have d12 := d21.symm
    clear o2' e1 o1p X0
    have c1 := blk_facts hb1 o1
    have c2 := blk_facts hb2 o2
    repeat' (first | simp (maxSteps := 2000000) only [vcCore, vcPlain, yieldT, Int.reduceEq, Int.reduceLT, Int.reduceLE, Int.reduceNe, ↓reduceIte, Nat.reduceEqDiff, Nat.reduceAdd, Nat.reduceLeDiff, Nat.reduceBEq, Value.cells, reduceCtorEq, tyAllRW31e, then_normal, Int.reduceBEq, Int.reduceBNe, Nat.reduceMul, Nat.reduceDiv, Int.reduceToNat, Int.reduceNeg, Int.reduceAdd, Int.reduceSub, Int.reduceMul, Nat.reduceSub, Nat.reduceLT, implies_true, imp_self, cvCore, *] | ((with_reducible refine CodeA.id ?_); (first | fail)) | ((with_reducible refine And.intro ?_ ?_); (focus omega)) | with_reducible refine cK_both _ _ _ _ _ _ (fun hc => ?_) (fun hc => ?_) | ((with_reducible refine gO_both _ _ (fun hc => ?_) (fun hc => ?_)) <;> (try simp only [Bool.not_true, Bool.not_false] at hc)) | ((with_reducible refine gH_both _ _ (fun hc => ?_) (fun hc => ?_)) <;> (try simp only [Bool.not_true, Bool.not_false] at hc)) | with_reducible refine pickK_both _ (fun hc => ?_) (fun hc => ?_))
    rw [← show tabI (fun _ => 0) = T from hT] at o2
    have n2' : Hid (m b2 = none) := n2
    refine load_sumW (S := S) hb2 o2 (fun M _ => (show ∀ M, SchR W0 M S from fh) M) hv hc fun m5 o5 k5 => ?_
    have X5 : Ext m m5 := fun x o hx => k5 _ _ (X _ _ hx) (by rintro h; cases h; rw [n2] at hx; cases hx)
    clear X o1 c1 o2 c2 hT hsz hon T
    have X := X5
    have o2 := o5
    have hsz : (i64 (tabI (cntW (S.fr v).l))).length = 64 := by simp [i64, tabI_length]
    generalize hT : tabI (cntW (S.fr v).l) = T at *
    have hon := ones_i64 T
    replace hT : Hid _ := hT
    clear X5 o5 k5
    have c2 := blk_facts hb2 o2
    have n1 : Hid True := trivial
    repeat' (first | simp (maxSteps := 2000000) only [vcCore, vcPlain, yieldT, Int.reduceEq, Int.reduceLT, Int.reduceLE, Int.reduceNe, ↓reduceIte, Nat.reduceEqDiff, Nat.reduceAdd, Nat.reduceLeDiff, Nat.reduceBEq, Value.cells, reduceCtorEq, tyAllRW31e, then_normal, Int.reduceBEq, Int.reduceBNe, Nat.reduceMul, Nat.reduceDiv, Int.reduceToNat, Int.reduceNeg, Int.reduceAdd, Int.reduceSub, Int.reduceMul, Nat.reduceSub, Nat.reduceLT, implies_true, imp_self, cvCore, *] | (rw [mset_eq b1]; generalize hM : mset _ b1 _ = mS; (try replace X := set_X hM X n1); (first | replace KP := KP_self hM KP | replace KP := KP_set hM KP n1 | skip); (try replace N1 := set_N hM N1 n1 z1); (try (replace o2 := set_o hM o2 d21; replace c2 := blk_facts hb2 o2)); replace o1 := set_same hM; clear hM; replace c1 := blk_facts hb1 o1) | (rw [mset_eq b2]; generalize hM : mset _ b2 _ = mS; (try replace X := set_X hM X n2); (first | replace KP := KP_self hM KP | replace KP := KP_set hM KP n2 | skip); (try replace N1 := set_N hM N1 n2 z2); (try (replace o1 := set_o hM o1 d12; replace c1 := blk_facts hb1 o1)); replace o2 := set_same hM; clear hM; replace c2 := blk_facts hb2 o2) | ((with_reducible refine CodeA.id ?_); (first | fail)) | ((with_reducible refine And.intro ?_ ?_); (focus omega)) | with_reducible refine cK_both _ _ _ _ _ _ (fun hc => ?_) (fun hc => ?_) | ((with_reducible refine gO_both _ _ (fun hc => ?_) (fun hc => ?_)) <;> (try simp only [Bool.not_true, Bool.not_false] at hc)) | ((with_reducible refine gH_both _ _ (fun hc => ?_) (fun hc => ?_)) <;> (try simp only [Bool.not_true, Bool.not_false] at hc)) | with_reducible refine pickK_both _ (fun hc => ?_) (fun hc => ?_))
    rw [show List.drop 64 (i64 T) = [] from List.drop_eq_nil_of_le (by omega), List.append_nil] at o2
    rw [cellsA_block hb2 o2 (by simpa using hsz), aggK_some]
    rw [← show tabI (cntW (S.fr v).l) = T from hT]
    exact h _ X
/-- How many places are written; which are written by more than one. -/
def addrN (f : Nat → Int) (n : Nat) : Nat := ((List.range n).filter fun a => decide (0 < f a)).length
def clashL (f : Nat → Int) (n : Nat) : List Int := ((List.range n).filter fun a => decide (1 < f a)).map fun a : Nat => (a : Int)
theorem addrN_succ (f : Nat → Int) (n : Nat) : addrN f (n + 1) = if 0 < f n then addrN f n + 1 else addrN f n := by
  unfold addrN
  rw [List.range_succ, List.filter_append, List.length_append]
  by_cases h : 0 < f n <;> simp [h]
theorem addrN_le (f : Nat → Int) (n : Nat) : addrN f n ≤ n := by
  unfold addrN
  have := List.length_filter_le (fun a => decide (0 < f a)) (List.range n)
  simpa using this
theorem clashL_succ (f : Nat → Int) (n : Nat) : clashL f (n + 1) = if 1 < f n then clashL f n ++ [(n : Int)] else clashL f n := by
  unfold clashL
  rw [List.range_succ, List.filter_append, List.map_append]
  by_cases h : 1 < f n <;> simp [h]
theorem clashL_le (f : Nat → Int) (n : Nat) : (clashL f n).length ≤ n := by
  unfold clashL
  have := List.length_filter_le (fun a => decide (1 < f a)) (List.range n)
  simpa using this
theorem load_Addrs {m : Mem} {S : SchV} {v : Int} (f : ∀ M, SchR W0 M S) : Ret Try.prog W0 63 #[S.v, .int .i64 v] m (.int .i64 (addrN (wrF S v) 64 : Nat)) := by
  have rW : ∀ M, Ret Try.prog W0 128 #[.agg #[.int .i64 S.mods, .slice S.f0.A S.f0.l.length S.f0.c, .slice S.f1.A S.f1.l.length S.f1.c], .int .i64 v] M (.agg (i64 (tabI (wrF S v))).toArray) := fun M => load_writes f
  have hg : ∀ q : Nat, q < 64 → (i64 (tabI (wrF S v)))[q]? = some (.int .i64 (wrF S v q)) := fun q hq => by rw [i64_get, tabI_get _ hq]; rfl
  clear f
  generalize wrF S v = g at *
  generalize tabI g = T at *
  refine ⟨fun K h => ?_⟩
  refine en_63 (l := [S.v, .int .i64 v]) (by simp [Try.ntmps63]) ?_
  have X : Ext m m := Ext.refl m
  simp (maxSteps := 2000000) only [Try.f63, Option.getD_some, vcCore, vcPlain, yieldT, Int.reduceEq, Int.reduceLT, Int.reduceLE, Int.reduceNe, ↓reduceIte, Nat.reduceEqDiff, Nat.reduceAdd, Nat.reduceLeDiff, Nat.reduceBEq, Value.cells, reduceCtorEq, tyAllRW31e, then_normal, Int.reduceBEq, Int.reduceBNe, Nat.reduceMul, Nat.reduceDiv, Int.reduceToNat, Int.reduceNeg, Int.reduceAdd, Int.reduceSub, Int.reduceMul, Nat.reduceSub, Nat.reduceLT, implies_true, imp_self, cvCore, SchV.v]
  repeat' (first | simp (maxSteps := 2000000) only [vcCore, vcPlain, yieldT, Int.reduceEq, Int.reduceLT, Int.reduceLE, Int.reduceNe, ↓reduceIte, Nat.reduceEqDiff, Nat.reduceAdd, Nat.reduceLeDiff, Nat.reduceBEq, Value.cells, reduceCtorEq, tyAllRW31e, then_normal, Int.reduceBEq, Int.reduceBNe, Nat.reduceMul, Nat.reduceDiv, Int.reduceToNat, Int.reduceNeg, Int.reduceAdd, Int.reduceSub, Int.reduceMul, Nat.reduceSub, Nat.reduceLT, implies_true, imp_self, cvCore, *] | ((first | (with_reducible refine Ret.use (rW _) fun m1 e1 => ?_)); (try replace X := X.trans e1); (try replace N1 := N1.later e1); (try (replace o1 := e1 _ _ o1; replace c1 := blk_facts hb1 o1)); (try (replace o2 := e1 _ _ o2; replace c2 := blk_facts hb2 o2))) | (with_reducible refine Ret.q (fun m1 e1 => rW _) ?_) | (with_reducible refine Ret.q0 (fun m1 e1 => rW _) ?_) | ((first | ((with_reducible refine newK_init ?_ ?_ ?_ ?_); (focus (intro b; simp only [evCore, reduceCtorEq, Nat.reduceEqDiff, Nat.reduceAdd, ↓reduceIte, Value.cells, tyAllRW31e]; done)); (focus (simp only [evCore, reduceCtorEq, Nat.reduceEqDiff, Nat.reduceAdd, ↓reduceIte, Value.cells, tyAllRW31e]; done)); (focus (intro b; simp only [evCore, reduceCtorEq, Nat.reduceEqDiff, Nat.reduceAdd, ↓reduceIte, Value.cells, tyAllRW31e]; done))) | ((with_reducible refine newK.id ?_); refine newK_intro ?_) | ((with_reducible refine RunA.id ?_); (first | with_reducible refine rbuild1 sl_38 ze_3 ?_ ?_ ?_ | with_reducible refine rbuild1 sl_47 ze_56 ?_ ?_ ?_); (focus (simp only [Value.cells, List.size_toArray, List.length_cons, List.length_nil]; done)); (focus decide)) | ((first | with_reducible refine bG1 sl_38 ze_3 ?_ ?_ ?_ | with_reducible refine bG1 sl_47 ze_56 ?_ ?_ ?_); (focus (simp only [Value.cells, List.size_toArray, List.length_cons, List.length_nil]; done)); (focus decide)) | ((with_reducible refine RunA.id ?_); (first | with_reducible refine rbuild2 sl_38 ze_3 rfl rfl ?_ | with_reducible refine rbuild2 sl_47 ze_56 rfl rfl ?_)) | (first | with_reducible refine bG2 sl_38 ze_3 rfl rfl ?_ | with_reducible refine bG2 sl_47 ze_56 rfl rfl ?_)); (first | (have := o1; intro b2 m1 hb2 n2 e1 o2; (try (have d21 := ne_of o1 n2; have d12 := d21.symm)); (try have z2 := own_ne N1.own n2); replace n2 := none_of X n2; (try simp only [evCore, reduceCtorEq, Nat.reduceEqDiff, Nat.reduceAdd, ↓reduceIte, Value.cells, tyAllRW31e] at o2)) | (intro b1 m1 hb1 n1 e1 o1; (try have z1 := own_ne N1.own n1); replace n1 := none_of X n1; (try simp only [evCore, reduceCtorEq, Nat.reduceEqDiff, Nat.reduceAdd, ↓reduceIte, Value.cells, tyAllRW31e] at o1))); (try replace X := X.trans e1); (try replace N1 := N1.later e1); (try (replace o1 := e1 _ _ o1; replace c1 := blk_facts hb1 o1)); (try (replace o2 := e1 _ _ o2; replace c2 := blk_facts hb2 o2)); (try have c1 := blk_facts hb1 o1); (try have c2 := blk_facts hb2 o2)) | ((with_reducible refine CodeA.id ?_); (first | fail)) | ((with_reducible refine And.intro ?_ ?_); (focus omega)) | with_reducible refine cK_both _ _ _ _ _ _ (fun hc => ?_) (fun hc => ?_) | ((with_reducible refine gO_both _ _ (fun hc => ?_) (fun hc => ?_)) <;> (try simp only [Bool.not_true, Bool.not_false] at hc)) | ((with_reducible refine gH_both _ _ (fun hc => ?_) (fun hc => ?_)) <;> (try simp only [Bool.not_true, Bool.not_false] at hc)) | with_reducible refine pickK_both _ (fun hc => ?_) (fun hc => ?_))
  refine loop_rule (fun d t m' => Ext m m' ∧ ∃ q : Nat, q ≤ 64 ∧ d = 64 - q ∧ t 5 = .int .i64 (addrN g q : Nat) ∧ t 10 = .agg (i64 T).toArray ∧ t 11 = .int .i64 q) 64 (by kernel_rfl) ⟨X, 0, by omega, by omega, rfl, rfl, rfl⟩ ?_
  clear X o1 c1 n1
  replace hg : Hid _ := hg
  rintro d t m' ⟨X, q, hq, rfl, t5, t10, t11⟩
  by_cases hlt : q < 64
  · have h1 : (q : Int) < 64 := by omega
    have h2 := wrap_succ (i := q) (by omega)
    have h3 : (0 : Int) ≤ (q : Int) := by omega
    have hy := (show ∀ q : Nat, q < 64 → (i64 T)[q]? = some (.int .i64 (g q)) from hg) q hlt
    have hs := addrN_succ g q
    have hle := addrN_le g q
    have h5 := wrap_succ (i := addrN g q) (by omega)
    replace hs : Hid _ := hs
    by_cases hp : 0 < g q
    · repeat' (first | simp (maxSteps := 2000000) only [vcCore, vcPlain, yieldT, Int.reduceEq, Int.reduceLT, Int.reduceLE, Int.reduceNe, ↓reduceIte, Nat.reduceEqDiff, Nat.reduceAdd, Nat.reduceLeDiff, Nat.reduceBEq, Value.cells, reduceCtorEq, tyAllRW31e, then_normal, Int.reduceBEq, Int.reduceBNe, Nat.reduceMul, Nat.reduceDiv, Int.reduceToNat, Int.reduceNeg, Int.reduceAdd, Int.reduceSub, Int.reduceMul, Nat.reduceSub, Nat.reduceLT, implies_true, imp_self, cvCore, *] | ((with_reducible refine CodeA.id ?_); (first | fail)) | ((with_reducible refine And.intro ?_ ?_); (focus omega)) | with_reducible refine cK_both _ _ _ _ _ _ (fun hc => ?_) (fun hc => ?_) | ((with_reducible refine gO_both _ _ (fun hc => ?_) (fun hc => ?_)) <;> (try simp only [Bool.not_true, Bool.not_false] at hc)) | ((with_reducible refine gH_both _ _ (fun hc => ?_) (fun hc => ?_)) <;> (try simp only [Bool.not_true, Bool.not_false] at hc)) | with_reducible refine pickK_both _ (fun hc => ?_) (fun hc => ?_))
      exact ⟨64 - (q + 1), by omega, X, q + 1, by omega, rfl, by rw [show addrN g (q + 1) = _ from hs, if_pos hp]; rfl, t10, rfl⟩
    · repeat' (first | simp (maxSteps := 2000000) only [vcCore, vcPlain, yieldT, Int.reduceEq, Int.reduceLT, Int.reduceLE, Int.reduceNe, ↓reduceIte, Nat.reduceEqDiff, Nat.reduceAdd, Nat.reduceLeDiff, Nat.reduceBEq, Value.cells, reduceCtorEq, tyAllRW31e, then_normal, Int.reduceBEq, Int.reduceBNe, Nat.reduceMul, Nat.reduceDiv, Int.reduceToNat, Int.reduceNeg, Int.reduceAdd, Int.reduceSub, Int.reduceMul, Nat.reduceSub, Nat.reduceLT, implies_true, imp_self, cvCore, *] | ((with_reducible refine CodeA.id ?_); (first | fail)) | ((with_reducible refine And.intro ?_ ?_); (focus omega)) | with_reducible refine cK_both _ _ _ _ _ _ (fun hc => ?_) (fun hc => ?_) | ((with_reducible refine gO_both _ _ (fun hc => ?_) (fun hc => ?_)) <;> (try simp only [Bool.not_true, Bool.not_false] at hc)) | ((with_reducible refine gH_both _ _ (fun hc => ?_) (fun hc => ?_)) <;> (try simp only [Bool.not_true, Bool.not_false] at hc)) | with_reducible refine pickK_both _ (fun hc => ?_) (fun hc => ?_))
      exact ⟨64 - (q + 1), by omega, X, q + 1, by omega, rfl, by rw [show addrN g (q + 1) = _ from hs, if_neg hp]; exact t5, t10, rfl⟩
  · have h1 : ¬ (q : Int) < 64 := by omega
    obtain rfl : q = 64 := by omega
    repeat' (first | simp (maxSteps := 2000000) only [vcCore, vcPlain, yieldT, Int.reduceEq, Int.reduceLT, Int.reduceLE, Int.reduceNe, ↓reduceIte, Nat.reduceEqDiff, Nat.reduceAdd, Nat.reduceLeDiff, Nat.reduceBEq, Value.cells, reduceCtorEq, tyAllRW31e, then_normal, Int.reduceBEq, Int.reduceBNe, Nat.reduceMul, Nat.reduceDiv, Int.reduceToNat, Int.reduceNeg, Int.reduceAdd, Int.reduceSub, Int.reduceMul, Nat.reduceSub, Nat.reduceLT, implies_true, imp_self, cvCore, *] | ((with_reducible refine CodeA.id ?_); (first | fail)) | ((with_reducible refine And.intro ?_ ?_); (focus omega)) | with_reducible refine cK_both _ _ _ _ _ _ (fun hc => ?_) (fun hc => ?_) | ((with_reducible refine gO_both _ _ (fun hc => ?_) (fun hc => ?_)) <;> (try simp only [Bool.not_true, Bool.not_false] at hc)) | ((with_reducible refine gH_both _ _ (fun hc => ?_) (fun hc => ?_)) <;> (try simp only [Bool.not_true, Bool.not_false] at hc)) | with_reducible refine pickK_both _ (fun hc => ?_) (fun hc => ?_))
    all_goals exact h _ X
theorem load_Clashes {m : Mem} {S : SchV} {v : Int} (f : ∀ M, SchR W0 M S) : Mk Try.prog W0 64 #[S.v, .int .i64 v] m 3 1 (clashL (wrF S v) 64).length (i64 (clashL (wrF S v) 64)) := by
  have rW : ∀ M, Ret Try.prog W0 128 #[.agg #[.int .i64 S.mods, .slice S.f0.A S.f0.l.length S.f0.c, .slice S.f1.A S.f1.l.length S.f1.c], .int .i64 v] M (.agg (i64 (tabI (wrF S v))).toArray) := fun M => load_writes f
  have hg : ∀ q : Nat, q < 64 → (i64 (tabI (wrF S v)))[q]? = some (.int .i64 (wrF S v q)) := fun q hq => by rw [i64_get, tabI_get _ hq]; rfl
  clear f
  generalize wrF S v = g at *
  generalize tabI g = T at *
  refine ⟨fun K h => ?_⟩
  refine en_64 (l := [S.v, .int .i64 v]) (by simp [Try.ntmps64]) ?_
  have X : Ext m m := Ext.refl m
  simp (maxSteps := 2000000) only [Try.f64, Option.getD_some, vcCore, vcPlain, yieldT, Int.reduceEq, Int.reduceLT, Int.reduceLE, Int.reduceNe, ↓reduceIte, Nat.reduceEqDiff, Nat.reduceAdd, Nat.reduceLeDiff, Nat.reduceBEq, Value.cells, reduceCtorEq, tyAllRW31e, then_normal, Int.reduceBEq, Int.reduceBNe, Nat.reduceMul, Nat.reduceDiv, Int.reduceToNat, Int.reduceNeg, Int.reduceAdd, Int.reduceSub, Int.reduceMul, Nat.reduceSub, Nat.reduceLT, implies_true, imp_self, cvCore, SchV.v]
  repeat' (first | simp (maxSteps := 2000000) only [vcCore, vcPlain, yieldT, Int.reduceEq, Int.reduceLT, Int.reduceLE, Int.reduceNe, ↓reduceIte, Nat.reduceEqDiff, Nat.reduceAdd, Nat.reduceLeDiff, Nat.reduceBEq, Value.cells, reduceCtorEq, tyAllRW31e, then_normal, Int.reduceBEq, Int.reduceBNe, Nat.reduceMul, Nat.reduceDiv, Int.reduceToNat, Int.reduceNeg, Int.reduceAdd, Int.reduceSub, Int.reduceMul, Nat.reduceSub, Nat.reduceLT, implies_true, imp_self, cvCore, *] | ((first | (with_reducible refine Ret.use (rW _) fun m1 e1 => ?_)); (try replace X := X.trans e1); (try replace N1 := N1.later e1); (try (replace o1 := e1 _ _ o1; replace c1 := blk_facts hb1 o1)); (try (replace o2 := e1 _ _ o2; replace c2 := blk_facts hb2 o2))) | (with_reducible refine Ret.q (fun m1 e1 => rW _) ?_) | (with_reducible refine Ret.q0 (fun m1 e1 => rW _) ?_) | ((first | ((with_reducible refine newK_init ?_ ?_ ?_ ?_); (focus (intro b; simp only [evCore, reduceCtorEq, Nat.reduceEqDiff, Nat.reduceAdd, ↓reduceIte, Value.cells, tyAllRW31e]; done)); (focus (simp only [evCore, reduceCtorEq, Nat.reduceEqDiff, Nat.reduceAdd, ↓reduceIte, Value.cells, tyAllRW31e]; done)); (focus (intro b; simp only [evCore, reduceCtorEq, Nat.reduceEqDiff, Nat.reduceAdd, ↓reduceIte, Value.cells, tyAllRW31e]; done))) | ((with_reducible refine newK.id ?_); refine newK_intro ?_) | ((with_reducible refine RunA.id ?_); (first | with_reducible refine rbuild1 sl_38 ze_3 ?_ ?_ ?_ | with_reducible refine rbuild1 sl_47 ze_56 ?_ ?_ ?_); (focus (simp only [Value.cells, List.size_toArray, List.length_cons, List.length_nil]; done)); (focus decide)) | ((first | with_reducible refine bG1 sl_38 ze_3 ?_ ?_ ?_ | with_reducible refine bG1 sl_47 ze_56 ?_ ?_ ?_); (focus (simp only [Value.cells, List.size_toArray, List.length_cons, List.length_nil]; done)); (focus decide)) | ((with_reducible refine RunA.id ?_); (first | with_reducible refine rbuild2 sl_38 ze_3 rfl rfl ?_ | with_reducible refine rbuild2 sl_47 ze_56 rfl rfl ?_)) | (first | with_reducible refine bG2 sl_38 ze_3 rfl rfl ?_ | with_reducible refine bG2 sl_47 ze_56 rfl rfl ?_)); (first | (have := o1; intro b2 m1 hb2 n2 e1 o2; (try (have d21 := ne_of o1 n2; have d12 := d21.symm)); (try have z2 := own_ne N1.own n2); replace n2 := none_of X n2; (try simp only [evCore, reduceCtorEq, Nat.reduceEqDiff, Nat.reduceAdd, ↓reduceIte, Value.cells, tyAllRW31e] at o2)) | (intro b1 m1 hb1 n1 e1 o1; (try have z1 := own_ne N1.own n1); replace n1 := none_of X n1; (try simp only [evCore, reduceCtorEq, Nat.reduceEqDiff, Nat.reduceAdd, ↓reduceIte, Value.cells, tyAllRW31e] at o1))); (try replace X := X.trans e1); (try replace N1 := N1.later e1); (try (replace o1 := e1 _ _ o1; replace c1 := blk_facts hb1 o1)); (try (replace o2 := e1 _ _ o2; replace c2 := blk_facts hb2 o2)); (try have c1 := blk_facts hb1 o1); (try have c2 := blk_facts hb2 o2)) | ((with_reducible refine CodeA.id ?_); (first | fail)) | ((with_reducible refine And.intro ?_ ?_); (focus omega)) | with_reducible refine cK_both _ _ _ _ _ _ (fun hc => ?_) (fun hc => ?_) | ((with_reducible refine gO_both _ _ (fun hc => ?_) (fun hc => ?_)) <;> (try simp only [Bool.not_true, Bool.not_false] at hc)) | ((with_reducible refine gH_both _ _ (fun hc => ?_) (fun hc => ?_)) <;> (try simp only [Bool.not_true, Bool.not_false] at hc)) | with_reducible refine pickK_both _ (fun hc => ?_) (fun hc => ?_))
  refine loop_rule (fun d t m' => ∃ (q : Nat) (A : Option Addr) (c : Nat), q ≤ 64 ∧ d = 64 - q ∧ t 5 = .slice A (clashL g q).length c ∧ t 10 = .agg (i64 T).toArray ∧ t 11 = .int .i64 q ∧ NewS W0 m m' 3 1 (.slice A (clashL g q).length c) (clashL g q).length (i64 (clashL g q))) 64 (by kernel_rfl) ⟨0, none, 0, by omega, by omega, rfl, rfl, rfl, (NewS.nil m 3 1).later X⟩ ?_
  clear X o1 c1 n1
  replace hg : Hid _ := hg
  rintro d t m' ⟨q, A, c, hq, rfl, t5, t10, t11, N1⟩
  have X := N1.ext
  by_cases hlt : q < 64
  · have h1 : (q : Int) < 64 := by omega
    have h2 := wrap_succ (i := q) (by omega)
    have h3 : (0 : Int) ≤ (q : Int) := by omega
    have hy := (show ∀ q : Nat, q < 64 → (i64 T)[q]? = some (.int .i64 (g q)) from hg) q hlt
    have hs := clashL_succ g q
    have hle := clashL_le g q
    replace hs : Hid _ := hs
    by_cases hp : 1 < g q
    · repeat' (first | simp (maxSteps := 2000000) only [vcCore, vcPlain, yieldT, Int.reduceEq, Int.reduceLT, Int.reduceLE, Int.reduceNe, ↓reduceIte, Nat.reduceEqDiff, Nat.reduceAdd, Nat.reduceLeDiff, Nat.reduceBEq, Value.cells, reduceCtorEq, tyAllRW31e, then_normal, Int.reduceBEq, Int.reduceBNe, Nat.reduceMul, Nat.reduceDiv, Int.reduceToNat, Int.reduceNeg, Int.reduceAdd, Int.reduceSub, Int.reduceMul, Nat.reduceSub, Nat.reduceLT, implies_true, imp_self, cvCore, *] | ((first | ((with_reducible refine newK_init ?_ ?_ ?_ ?_); (focus (intro b; simp only [evCore, reduceCtorEq, Nat.reduceEqDiff, Nat.reduceAdd, ↓reduceIte, Value.cells, tyAllRW31e]; done)); (focus (simp only [evCore, reduceCtorEq, Nat.reduceEqDiff, Nat.reduceAdd, ↓reduceIte, Value.cells, tyAllRW31e]; done)); (focus (intro b; simp only [evCore, reduceCtorEq, Nat.reduceEqDiff, Nat.reduceAdd, ↓reduceIte, Value.cells, tyAllRW31e]; done))) | ((with_reducible refine newK.id ?_); refine newK_intro ?_) | ((with_reducible refine RunA.id ?_); (first | with_reducible refine rbuild1 sl_38 ze_3 ?_ ?_ ?_ | with_reducible refine rbuild1 sl_47 ze_56 ?_ ?_ ?_); (focus (simp only [Value.cells, List.size_toArray, List.length_cons, List.length_nil]; done)); (focus decide)) | ((first | with_reducible refine bG1 sl_38 ze_3 ?_ ?_ ?_ | with_reducible refine bG1 sl_47 ze_56 ?_ ?_ ?_); (focus (simp only [Value.cells, List.size_toArray, List.length_cons, List.length_nil]; done)); (focus decide)) | ((with_reducible refine RunA.id ?_); (first | with_reducible refine rbuild2 sl_38 ze_3 rfl rfl ?_ | with_reducible refine rbuild2 sl_47 ze_56 rfl rfl ?_)) | (first | with_reducible refine bG2 sl_38 ze_3 rfl rfl ?_ | with_reducible refine bG2 sl_47 ze_56 rfl rfl ?_)); (first | (have := o1; intro b2 m1 hb2 n2 e1 o2; (try (have d21 := ne_of o1 n2; have d12 := d21.symm)); (try have z2 := own_ne N1.own n2); replace n2 := none_of X n2; (try simp only [evCore, reduceCtorEq, Nat.reduceEqDiff, Nat.reduceAdd, ↓reduceIte, Value.cells, tyAllRW31e] at o2)) | (intro b1 m1 hb1 n1 e1 o1; (try have z1 := own_ne N1.own n1); replace n1 := none_of X n1; (try simp only [evCore, reduceCtorEq, Nat.reduceEqDiff, Nat.reduceAdd, ↓reduceIte, Value.cells, tyAllRW31e] at o1))); (try replace X := X.trans e1); (try replace N1 := N1.later e1); (try (replace o1 := e1 _ _ o1; replace c1 := blk_facts hb1 o1)); (try (replace o2 := e1 _ _ o2; replace c2 := blk_facts hb2 o2)); (try have c1 := blk_facts hb1 o1); (try have c2 := blk_facts hb2 o2)) | ((with_reducible refine RunA.id ?_); (first | (first | with_reducible refine app_one sl_38 ze_3 by_3 ⟨rfl, by decide⟩ N1 hb2 o2 ?_ ?_ ?_ ?_ | with_reducible refine app_one sl_47 ze_56 by_56 ⟨rfl, by decide⟩ N1 hb2 o2 ?_ ?_ ?_ ?_) | (first | with_reducible refine app_one sl_38 ze_3 by_3 ⟨rfl, by decide⟩ N1 hb1 o1 ?_ ?_ ?_ ?_ | with_reducible refine app_one sl_47 ze_56 by_56 ⟨rfl, by decide⟩ N1 hb1 o1 ?_ ?_ ?_ ?_)); (focus rfl); (focus (simp only [List.toList_toArray, st_agg, ones_nil, ones_cons, oc_int, oc_bool, oc_str, oc_ptr, oc_sl, oc_map, Bool.and_true]; done)); (focus (constructor <;> first | omega | (simp only [maxLen]; omega))); intro A1 q1 m1 N1 k1; replace X := N1.ext; (try (replace z1 := k1 _ _ o1 z1; replace o1 := z1.1; replace z1 := z1.2; replace c1 := blk_facts hb1 o1)); (try (replace z2 := k1 _ _ o2 z2; replace o2 := z2.1; replace z2 := z2.2; replace c2 := blk_facts hb2 o2))) | ((with_reducible refine CodeA.id ?_); (first | fail)) | ((with_reducible refine And.intro ?_ ?_); (focus omega)) | with_reducible refine cK_both _ _ _ _ _ _ (fun hc => ?_) (fun hc => ?_) | ((with_reducible refine gO_both _ _ (fun hc => ?_) (fun hc => ?_)) <;> (try simp only [Bool.not_true, Bool.not_false] at hc)) | ((with_reducible refine gH_both _ _ (fun hc => ?_) (fun hc => ?_)) <;> (try simp only [Bool.not_true, Bool.not_false] at hc)) | with_reducible refine pickK_both _ (fun hc => ?_) (fun hc => ?_))
      have hi2 : i64 (clashL g q ++ [(q : Int)]) = i64 (clashL g q) ++ [.int .i64 (q : Int)] := by simp [i64]
      exact ⟨64 - (q + 1), by omega, q + 1, A1, q1, by omega, rfl, by rw [show clashL g (q + 1) = _ from hs, if_pos hp, List.length_append]; rfl, t10, rfl, by rw [show clashL g (q + 1) = _ from hs, if_pos hp, List.length_append, hi2]; exact N1⟩
    · repeat' (first | simp (maxSteps := 2000000) only [vcCore, vcPlain, yieldT, Int.reduceEq, Int.reduceLT, Int.reduceLE, Int.reduceNe, ↓reduceIte, Nat.reduceEqDiff, Nat.reduceAdd, Nat.reduceLeDiff, Nat.reduceBEq, Value.cells, reduceCtorEq, tyAllRW31e, then_normal, Int.reduceBEq, Int.reduceBNe, Nat.reduceMul, Nat.reduceDiv, Int.reduceToNat, Int.reduceNeg, Int.reduceAdd, Int.reduceSub, Int.reduceMul, Nat.reduceSub, Nat.reduceLT, implies_true, imp_self, cvCore, *] | ((with_reducible refine CodeA.id ?_); (first | fail)) | ((with_reducible refine And.intro ?_ ?_); (focus omega)) | with_reducible refine cK_both _ _ _ _ _ _ (fun hc => ?_) (fun hc => ?_) | ((with_reducible refine gO_both _ _ (fun hc => ?_) (fun hc => ?_)) <;> (try simp only [Bool.not_true, Bool.not_false] at hc)) | ((with_reducible refine gH_both _ _ (fun hc => ?_) (fun hc => ?_)) <;> (try simp only [Bool.not_true, Bool.not_false] at hc)) | with_reducible refine pickK_both _ (fun hc => ?_) (fun hc => ?_))
      exact ⟨64 - (q + 1), by omega, q + 1, A, c, by omega, rfl, by rw [show clashL g (q + 1) = _ from hs, if_neg hp]; exact t5, t10, rfl, by rw [show clashL g (q + 1) = _ from hs, if_neg hp]; exact N1⟩
  · have h1 : ¬ (q : Int) < 64 := by omega
    obtain rfl : q = 64 := by omega
    repeat' (first | simp (maxSteps := 2000000) only [vcCore, vcPlain, yieldT, Int.reduceEq, Int.reduceLT, Int.reduceLE, Int.reduceNe, ↓reduceIte, Nat.reduceEqDiff, Nat.reduceAdd, Nat.reduceLeDiff, Nat.reduceBEq, Value.cells, reduceCtorEq, tyAllRW31e, then_normal, Int.reduceBEq, Int.reduceBNe, Nat.reduceMul, Nat.reduceDiv, Int.reduceToNat, Int.reduceNeg, Int.reduceAdd, Int.reduceSub, Int.reduceMul, Nat.reduceSub, Nat.reduceLT, implies_true, imp_self, cvCore, *] | ((with_reducible refine CodeA.id ?_); (first | fail)) | ((with_reducible refine And.intro ?_ ?_); (focus omega)) | with_reducible refine cK_both _ _ _ _ _ _ (fun hc => ?_) (fun hc => ?_) | ((with_reducible refine gO_both _ _ (fun hc => ?_) (fun hc => ?_)) <;> (try simp only [Bool.not_true, Bool.not_false] at hc)) | ((with_reducible refine gH_both _ _ (fun hc => ?_) (fun hc => ?_)) <;> (try simp only [Bool.not_true, Bool.not_false] at hc)) | with_reducible refine pickK_both _ (fun hc => ?_) (fun hc => ?_))
    all_goals exact h _ _ _ N1
end
end Go.Proofs.Ytcddhbhdpleppaa.R
