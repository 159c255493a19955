/- The validity layer: windows, over the logic of partial memories. No conditions. -/
import Derived.Test.YtcddhbhdpleppaaRZ
import Derived.Test.YtcddhbhdpleppaaSLoadTellsRW07b
import Derived.Test.YtcddhbhdpleppaaRMap
import Derived.Test.YtcddhbhdpleppaaRApp
set_option linter.unusedVariables false
set_option linter.unusedSimpArgs false
namespace Go.Proofs.Ytcddhbhdpleppaa.R
open Go Go.RowKit Go.Proofs.Ytcddhbhdpleppaa
set_option maxRecDepth 100000
set_option maxHeartbeats 8000000
theorem tyAllRW08c : type_of% (And.intro (And.intro ty_3 (And.intro ty_4 ty_38)) (And.intro ty_41 (And.intro ty_65 ty_230))) := (And.intro (And.intro ty_3 (And.intro ty_4 ty_38)) (And.intro ty_41 (And.intro ty_65 ty_230)))
section
variable {W0 : World}
def idxFromP (p : Int → Bool) : Int → List Int → Int
  | _, [] => -1
  | i, y :: l => if p y then i else idxFromP p (i + 1) l
theorem idxFromP_any (p : Int → Bool) : ∀ (l : List Int) (i : Int), 0 ≤ i → decide (0 ≤ idxFromP p i l) = l.any p
  | [], i, h => by simp [idxFromP]
  | y :: l, i, h => by
    unfold idxFromP
    cases hy : p y
    · simp only [Bool.false_eq_true, ↓reduceIte, List.any_cons, hy, Bool.false_or]
      exact idxFromP_any p l (i + 1) (by omega)
    · simp [hy, h]
theorem sl_IndexFunc {m : Mem} {A : Option Addr} {n c : Nat} {l : List Int} {fn : Nat} {cv : Value} {p : Int → Bool} (f1 : RS W0 m (.slice A n c) 1 n (i64 l)) (hl : l.length = n) (hn : n ≤ 9223372036854775807)
    (hp : ∀ M, Ext m M → ∀ y ∈ l, Ret Try.prog W0 fn #[.int .i64 y, cv] M (.bool (p y))) :
    Ret Try.prog W0 186 #[.slice A n c, .func (.func fn) #[] #[cv]] m (.int .i64 (idxFromP p 0 l)) := by
  refine ⟨fun K h => ?_⟩
  refine en_186 (l := [.slice A n c, .func (.func fn) #[] #[cv]]) (by simp [Try.ntmps186]) ?_
  have X : Ext m m := Ext.refl m
  simp (maxSteps := 2000000) only [Try.f186, Option.getD_some, vcCore, vcPlain, yieldT, Int.reduceEq, Int.reduceLT, Int.reduceLE, Int.reduceNe, ↓reduceIte, Nat.reduceEqDiff, Nat.reduceAdd, Nat.reduceLeDiff, Nat.reduceBEq, Value.cells, reduceCtorEq, tyAllRW08c, then_normal, Int.reduceBEq, Int.reduceBNe, Nat.reduceMul, Nat.reduceDiv, Int.reduceToNat, Int.reduceNeg, Int.reduceAdd, Int.reduceSub, Int.reduceMul, Nat.reduceSub, Nat.reduceLT, implies_true, imp_self, cvCore]
  repeat' (first | simp (maxSteps := 2000000) only [vcCore, vcPlain, yieldT, Int.reduceEq, Int.reduceLT, Int.reduceLE, Int.reduceNe, ↓reduceIte, Nat.reduceEqDiff, Nat.reduceAdd, Nat.reduceLeDiff, Nat.reduceBEq, Value.cells, reduceCtorEq, tyAllRW08c, then_normal, Int.reduceBEq, Int.reduceBNe, Nat.reduceMul, Nat.reduceDiv, Int.reduceToNat, Int.reduceNeg, Int.reduceAdd, Int.reduceSub, Int.reduceMul, Nat.reduceSub, Nat.reduceLT, implies_true, imp_self, cvCore, *] | ((with_reducible refine CodeA.id ?_); (first | fail)) | ((with_reducible refine And.intro ?_ ?_); (focus omega)) | with_reducible refine cK_both _ _ _ _ _ _ (fun hc => ?_) (fun hc => ?_) | ((with_reducible refine gO_both _ _ (fun hc => ?_) (fun hc => ?_)) <;> (try simp only [Bool.not_true, Bool.not_false] at hc)) | ((with_reducible refine gH_both _ _ (fun hc => ?_) (fun hc => ?_)) <;> (try simp only [Bool.not_true, Bool.not_false] at hc)) | with_reducible refine pickK_both _ (fun hc => ?_) (fun hc => ?_))
  refine loop_rule (fun d t m' => Ext m m' ∧ ∃ i : Nat, i ≤ n ∧ d = n - i ∧ t 0 = .slice A n c ∧ t 1 = .func (.func fn) #[] #[cv] ∧ t 7 = .int .i64 n ∧ t 8 = .int .i64 i ∧ idxFromP p i (l.drop i) = idxFromP p 0 l) n (by kernel_rfl) ⟨X, 0, by omega, by omega, rfl, rfl, rfl, rfl, by simp⟩ ?_
  clear X
  rintro d t m' ⟨X, i, hi, rfl, t0, t1, t7, t8, hz⟩
  by_cases hlt : i < n
  · have h1 := nat_lt hlt
    obtain ⟨y, hy⟩ := get_some (l := l) (i := i) (by omega)
    have hpy : ∀ M, Ext m M → Ret Try.prog W0 fn #[.int .i64 y, cv] M (.bool (p y)) := fun M e => hp M e y (List.mem_of_getElem? hy)
    obtain ⟨a, rfl, hc⟩ := (f1.ext X).i64 hy
    have h2 := wrap_succ (i := i) (by omega)
    have h3 : (0 : Int) ≤ (i : Int) := by omega
    rw [drop_step hy, idxFromP] at hz
    clear hp hy
    cases hpv : p y
    · rw [hpv] at hpy hz
      simp only [Bool.false_eq_true, ↓reduceIte] at hz
      replace hz : Hid _ := hz
      repeat' (first | simp (maxSteps := 2000000) only [vcCore, vcPlain, yieldT, Int.reduceEq, Int.reduceLT, Int.reduceLE, Int.reduceNe, ↓reduceIte, Nat.reduceEqDiff, Nat.reduceAdd, Nat.reduceLeDiff, Nat.reduceBEq, Value.cells, reduceCtorEq, tyAllRW08c, then_normal, Int.reduceBEq, Int.reduceBNe, Nat.reduceMul, Nat.reduceDiv, Int.reduceToNat, Int.reduceNeg, Int.reduceAdd, Int.reduceSub, Int.reduceMul, Nat.reduceSub, Nat.reduceLT, implies_true, imp_self, cvCore, *, Nat.mul_one] | ((with_reducible refine CodeA.id ?_); (first | fail)) | ((with_reducible refine And.intro ?_ ?_); (focus omega)) | with_reducible refine cK_both _ _ _ _ _ _ (fun hc => ?_) (fun hc => ?_) | ((with_reducible refine gO_both _ _ (fun hc => ?_) (fun hc => ?_)) <;> (try simp only [Bool.not_true, Bool.not_false] at hc)) | ((with_reducible refine gH_both _ _ (fun hc => ?_) (fun hc => ?_)) <;> (try simp only [Bool.not_true, Bool.not_false] at hc)) | with_reducible refine pickK_both _ (fun hc => ?_) (fun hc => ?_))
      refine Ret.use (hpy _ X) fun m2 e2 => ?_
      replace X := X.trans e2
      clear e2
      repeat' (first | simp (maxSteps := 2000000) only [vcCore, vcPlain, yieldT, Int.reduceEq, Int.reduceLT, Int.reduceLE, Int.reduceNe, ↓reduceIte, Nat.reduceEqDiff, Nat.reduceAdd, Nat.reduceLeDiff, Nat.reduceBEq, Value.cells, reduceCtorEq, tyAllRW08c, then_normal, Int.reduceBEq, Int.reduceBNe, Nat.reduceMul, Nat.reduceDiv, Int.reduceToNat, Int.reduceNeg, Int.reduceAdd, Int.reduceSub, Int.reduceMul, Nat.reduceSub, Nat.reduceLT, implies_true, imp_self, cvCore, *] | ((with_reducible refine CodeA.id ?_); (first | fail)) | ((with_reducible refine And.intro ?_ ?_); (focus omega)) | with_reducible refine cK_both _ _ _ _ _ _ (fun hc => ?_) (fun hc => ?_) | ((with_reducible refine gO_both _ _ (fun hc => ?_) (fun hc => ?_)) <;> (try simp only [Bool.not_true, Bool.not_false] at hc)) | ((with_reducible refine gH_both _ _ (fun hc => ?_) (fun hc => ?_)) <;> (try simp only [Bool.not_true, Bool.not_false] at hc)) | with_reducible refine pickK_both _ (fun hc => ?_) (fun hc => ?_))
      exact ⟨n - (i + 1), by omega, X, i + 1, by omega, rfl, t0, t1, t7, rfl, by rw [← show _ = idxFromP p 0 l from hz]; simp⟩
    · rw [hpv] at hpy hz
      simp only [↓reduceIte] at hz
      replace hz : Hid _ := hz
      repeat' (first | simp (maxSteps := 2000000) only [vcCore, vcPlain, yieldT, Int.reduceEq, Int.reduceLT, Int.reduceLE, Int.reduceNe, ↓reduceIte, Nat.reduceEqDiff, Nat.reduceAdd, Nat.reduceLeDiff, Nat.reduceBEq, Value.cells, reduceCtorEq, tyAllRW08c, then_normal, Int.reduceBEq, Int.reduceBNe, Nat.reduceMul, Nat.reduceDiv, Int.reduceToNat, Int.reduceNeg, Int.reduceAdd, Int.reduceSub, Int.reduceMul, Nat.reduceSub, Nat.reduceLT, implies_true, imp_self, cvCore, *, Nat.mul_one] | ((with_reducible refine CodeA.id ?_); (first | fail)) | ((with_reducible refine And.intro ?_ ?_); (focus omega)) | with_reducible refine cK_both _ _ _ _ _ _ (fun hc => ?_) (fun hc => ?_) | ((with_reducible refine gO_both _ _ (fun hc => ?_) (fun hc => ?_)) <;> (try simp only [Bool.not_true, Bool.not_false] at hc)) | ((with_reducible refine gH_both _ _ (fun hc => ?_) (fun hc => ?_)) <;> (try simp only [Bool.not_true, Bool.not_false] at hc)) | with_reducible refine pickK_both _ (fun hc => ?_) (fun hc => ?_))
      refine Ret.use (hpy _ X) fun m2 e2 => ?_
      replace X := X.trans e2
      clear e2
      rw [← show _ = idxFromP p 0 l from hz] at h
      repeat' (first | simp (maxSteps := 2000000) only [vcCore, vcPlain, yieldT, Int.reduceEq, Int.reduceLT, Int.reduceLE, Int.reduceNe, ↓reduceIte, Nat.reduceEqDiff, Nat.reduceAdd, Nat.reduceLeDiff, Nat.reduceBEq, Value.cells, reduceCtorEq, tyAllRW08c, then_normal, Int.reduceBEq, Int.reduceBNe, Nat.reduceMul, Nat.reduceDiv, Int.reduceToNat, Int.reduceNeg, Int.reduceAdd, Int.reduceSub, Int.reduceMul, Nat.reduceSub, Nat.reduceLT, implies_true, imp_self, cvCore, *] | ((with_reducible refine CodeA.id ?_); (first | fail)) | ((with_reducible refine And.intro ?_ ?_); (focus omega)) | with_reducible refine cK_both _ _ _ _ _ _ (fun hc => ?_) (fun hc => ?_) | ((with_reducible refine gO_both _ _ (fun hc => ?_) (fun hc => ?_)) <;> (try simp only [Bool.not_true, Bool.not_false] at hc)) | ((with_reducible refine gH_both _ _ (fun hc => ?_) (fun hc => ?_)) <;> (try simp only [Bool.not_true, Bool.not_false] at hc)) | with_reducible refine pickK_both _ (fun hc => ?_) (fun hc => ?_))
  · have h1 := nat_not_lt hlt
    rw [List.drop_eq_nil_of_le (by omega)] at hz
    have hz' : idxFromP p 0 l = -1 := hz.symm
    rw [hz'] at h
    clear hz hz' hp
    repeat' (first | simp (maxSteps := 2000000) only [vcCore, vcPlain, yieldT, Int.reduceEq, Int.reduceLT, Int.reduceLE, Int.reduceNe, ↓reduceIte, Nat.reduceEqDiff, Nat.reduceAdd, Nat.reduceLeDiff, Nat.reduceBEq, Value.cells, reduceCtorEq, tyAllRW08c, then_normal, Int.reduceBEq, Int.reduceBNe, Nat.reduceMul, Nat.reduceDiv, Int.reduceToNat, Int.reduceNeg, Int.reduceAdd, Int.reduceSub, Int.reduceMul, Nat.reduceSub, Nat.reduceLT, implies_true, imp_self, cvCore, *] | ((with_reducible refine CodeA.id ?_); (first | fail)) | ((with_reducible refine And.intro ?_ ?_); (focus omega)) | with_reducible refine cK_both _ _ _ _ _ _ (fun hc => ?_) (fun hc => ?_) | ((with_reducible refine gO_both _ _ (fun hc => ?_) (fun hc => ?_)) <;> (try simp only [Bool.not_true, Bool.not_false] at hc)) | ((with_reducible refine gH_both _ _ (fun hc => ?_) (fun hc => ?_)) <;> (try simp only [Bool.not_true, Bool.not_false] at hc)) | with_reducible refine pickK_both _ (fun hc => ?_) (fun hc => ?_))
theorem sl_ContainsFunc {m : Mem} {A : Option Addr} {n c : Nat} {l : List Int} {fn : Nat} {cv : Value} {p : Int → Bool} (f1 : RS W0 m (.slice A n c) 1 n (i64 l)) (hl : l.length = n) (hn : n ≤ 9223372036854775807)
    (hp : ∀ M, Ext m M → ∀ y ∈ l, Ret Try.prog W0 fn #[.int .i64 y, cv] M (.bool (p y))) :
    Ret Try.prog W0 175 #[.slice A n c, .func (.func fn) #[] #[cv]] m (.bool (l.any p)) := by
  refine ⟨fun K h => ?_⟩
  refine en_175 (l := [.slice A n c, .func (.func fn) #[] #[cv]]) (by simp [Try.ntmps175]) ?_
  have X : Ext m m := Ext.refl m
  simp (maxSteps := 2000000) only [Try.f175, Option.getD_some, vcCore, vcPlain, yieldT, Int.reduceEq, Int.reduceLT, Int.reduceLE, Int.reduceNe, ↓reduceIte, Nat.reduceEqDiff, Nat.reduceAdd, Nat.reduceLeDiff, Nat.reduceBEq, Value.cells, reduceCtorEq, tyAllRW08c, then_normal, Int.reduceBEq, Int.reduceBNe, Nat.reduceMul, Nat.reduceDiv, Int.reduceToNat, Int.reduceNeg, Int.reduceAdd, Int.reduceSub, Int.reduceMul, Nat.reduceSub, Nat.reduceLT, implies_true, imp_self, cvCore]
  repeat' (first | simp (maxSteps := 2000000) only [vcCore, vcPlain, yieldT, Int.reduceEq, Int.reduceLT, Int.reduceLE, Int.reduceNe, ↓reduceIte, Nat.reduceEqDiff, Nat.reduceAdd, Nat.reduceLeDiff, Nat.reduceBEq, Value.cells, reduceCtorEq, tyAllRW08c, then_normal, Int.reduceBEq, Int.reduceBNe, Nat.reduceMul, Nat.reduceDiv, Int.reduceToNat, Int.reduceNeg, Int.reduceAdd, Int.reduceSub, Int.reduceMul, Nat.reduceSub, Nat.reduceLT, implies_true, imp_self, cvCore, *] | ((first | (with_reducible refine Ret.use (sl_IndexFunc (p := p) (f1.ext X) hl hn (fun M e => hp M (X.trans e))) fun m1 e1 => ?_)); (try replace X := X.trans e1); (try replace P3 := P3.ext e1); (try (replace o1 := e1 _ _ o1; replace c1 := blk_facts hb1 o1)); (try (replace o2 := e1 _ _ o2; replace c2 := blk_facts hb2 o2)); (try (replace o3 := e1 _ _ o3; replace c3 := blk_facts hb3 o3))) | (with_reducible refine Ret.q (fun m1 e1 => sl_IndexFunc (p := p) (f1.ext (X.trans e1)) hl hn (fun M e => hp M (X.trans e))) ?_) | (with_reducible refine Ret.q0 (fun m1 e1 => sl_IndexFunc (p := p) (f1.ext %X) hl hn (fun M e => hp M (X.trans e))) ?_) | ((with_reducible refine CodeA.id ?_); (first | fail)) | ((with_reducible refine And.intro ?_ ?_); (focus omega)) | with_reducible refine cK_both _ _ _ _ _ _ (fun hc => ?_) (fun hc => ?_) | ((with_reducible refine gO_both _ _ (fun hc => ?_) (fun hc => ?_)) <;> (try simp only [Bool.not_true, Bool.not_false] at hc)) | ((with_reducible refine gH_both _ _ (fun hc => ?_) (fun hc => ?_)) <;> (try simp only [Bool.not_true, Bool.not_false] at hc)) | with_reducible refine pickK_both _ (fun hc => ?_) (fun hc => ?_))
  exact K_eq (h _ X) (by rw [← idxFromP_any p l 0 (by omega)])
def outP (k y : Int) : Bool := decide (y < 0) || decide (k ≤ y)
def namedB (l : List Int) (k : Int) : Bool := !(l.length == 0 || l.any (outP k))
theorem named_fn {m : Mem} {b1 : Nat} {k y : Int} (hb1 : W0.heap.size ≤ b1) (o1 : m b1 = some (.cells #[.int .i64 k] 3)) :
    Ret Try.prog W0 192 #[.int .i64 y, .pointer (some ⟨b1, 0, none⟩)] m (.bool (outP k y)) := by
  have c1 := blk_facts hb1 o1
  refine ⟨fun K h => ?_⟩
  refine en_192 (l := [.int .i64 y, .pointer (some ⟨b1, 0, none⟩)]) (by simp [Try.ntmps192]) ?_
  have X : Ext m m := Ext.refl m
  simp (maxSteps := 2000000) only [Try.f192, Option.getD_some, vcCore, vcPlain, yieldT, Int.reduceEq, Int.reduceLT, Int.reduceLE, Int.reduceNe, ↓reduceIte, Nat.reduceEqDiff, Nat.reduceAdd, Nat.reduceLeDiff, Nat.reduceBEq, Value.cells, reduceCtorEq, tyAllRW08c, then_normal, Int.reduceBEq, Int.reduceBNe, Nat.reduceMul, Nat.reduceDiv, Int.reduceToNat, Int.reduceNeg, Int.reduceAdd, Int.reduceSub, Int.reduceMul, Nat.reduceSub, Nat.reduceLT, implies_true, imp_self, cvCore]
  repeat' (first | simp (maxSteps := 2000000) only [vcCore, vcPlain, yieldT, Int.reduceEq, Int.reduceLT, Int.reduceLE, Int.reduceNe, ↓reduceIte, Nat.reduceEqDiff, Nat.reduceAdd, Nat.reduceLeDiff, Nat.reduceBEq, Value.cells, reduceCtorEq, tyAllRW08c, then_normal, Int.reduceBEq, Int.reduceBNe, Nat.reduceMul, Nat.reduceDiv, Int.reduceToNat, Int.reduceNeg, Int.reduceAdd, Int.reduceSub, Int.reduceMul, Nat.reduceSub, Nat.reduceLT, implies_true, imp_self, cvCore, *] | ((with_reducible refine CodeA.id ?_); (first | fail)) | ((with_reducible refine And.intro ?_ ?_); (focus omega)) | with_reducible refine cK_both _ _ _ _ _ _ (fun hc => ?_) (fun hc => ?_) | ((with_reducible refine gO_both _ _ (fun hc => ?_) (fun hc => ?_)) <;> (try simp only [Bool.not_true, Bool.not_false] at hc)) | ((with_reducible refine gH_both _ _ (fun hc => ?_) (fun hc => ?_)) <;> (try simp only [Bool.not_true, Bool.not_false] at hc)) | with_reducible refine pickK_both _ (fun hc => ?_) (fun hc => ?_))
  all_goals (refine K_eq (h _ X) ?_; (try clear h); (try simp only [beq_iff_eq, beq_eq_false_iff_ne, bne_iff_ne, bne_eq_false_iff_eq, decide_eq_true_eq, decide_eq_false_iff_not, ne_eq, Bool.not_eq_true, Bool.not_eq_false, Bool.not_eq_eq_eq_not, Bool.not_true, Bool.not_false] at *); (try simp only [Value.int.injEq, Value.bool.injEq, true_and]); (try simp only [IntKind.wrap_i64]))
  all_goals (simp [outP, *])
theorem nf {l : List Int} {m : Mem} {b1 : Nat} {k : Int} (hb1 : W0.heap.size ≤ b1) (o1 : m b1 = some (.cells #[.int .i64 k] 3)) : ∀ M, Ext m M → ∀ y ∈ l, Ret Try.prog W0 192 #[.int .i64 y, .pointer (some ⟨b1, 0, none⟩)] M (.bool (outP k y)) := fun M e y _ => named_fn hb1 (e _ _ o1)
theorem valid_named {m : Mem} {A : Option Addr} {c : Nat} {l : List Int} {k : Int} (f1 : RS W0 m (.slice A l.length c) 1 l.length (i64 l)) (hn : l.length ≤ 9223372036854775807) :
    Ret Try.prog W0 187 #[.slice A l.length c, .int .i64 k] m (.int .i64 (if namedB l k then 0 else 2)) := by
  cases h0 : (l.length == 0)
  · have h0' : ((l.length : Int) == 0) = false := beq_no (by simpa using h0)
    cases h1 : l.any (outP k)
    · have e : namedB l k = true := by unfold namedB; rw [h0, h1]; rfl
      rw [e]
      clear h0
      refine ⟨fun K h => ?_⟩
      refine en_187 (l := [.slice A l.length c, .int .i64 k]) (by simp [Try.ntmps187]) ?_
      have X : Ext m m := Ext.refl m
      simp (maxSteps := 2000000) only [Try.f187, Option.getD_some, vcCore, vcPlain, yieldT, Int.reduceEq, Int.reduceLT, Int.reduceLE, Int.reduceNe, ↓reduceIte, Nat.reduceEqDiff, Nat.reduceAdd, Nat.reduceLeDiff, Nat.reduceBEq, Value.cells, reduceCtorEq, tyAllRW08c, then_normal, Int.reduceBEq, Int.reduceBNe, Nat.reduceMul, Nat.reduceDiv, Int.reduceToNat, Int.reduceNeg, Int.reduceAdd, Int.reduceSub, Int.reduceMul, Nat.reduceSub, Nat.reduceLT, implies_true, imp_self, cvCore]
      repeat' (first | simp (maxSteps := 2000000) only [vcCore, vcPlain, yieldT, Int.reduceEq, Int.reduceLT, Int.reduceLE, Int.reduceNe, ↓reduceIte, Nat.reduceEqDiff, Nat.reduceAdd, Nat.reduceLeDiff, Nat.reduceBEq, Value.cells, reduceCtorEq, tyAllRW08c, then_normal, Int.reduceBEq, Int.reduceBNe, Nat.reduceMul, Nat.reduceDiv, Int.reduceToNat, Int.reduceNeg, Int.reduceAdd, Int.reduceSub, Int.reduceMul, Nat.reduceSub, Nat.reduceLT, implies_true, imp_self, cvCore, *] | ((first | (with_reducible refine Ret.use (sl_ContainsFunc (p := outP k) (f1.ext X) rfl hn (nf hb1 o1)) fun m1 e1 => ?_)); (try replace X := X.trans e1); (try replace P3 := P3.ext e1); (try (replace o1 := e1 _ _ o1; replace c1 := blk_facts hb1 o1)); (try (replace o2 := e1 _ _ o2; replace c2 := blk_facts hb2 o2)); (try (replace o3 := e1 _ _ o3; replace c3 := blk_facts hb3 o3))) | (with_reducible refine Ret.q (fun m1 e1 => sl_ContainsFunc (p := outP k) (f1.ext (X.trans e1)) rfl hn (nf hb1 o1)) ?_) | (with_reducible refine Ret.q0 (fun m1 e1 => sl_ContainsFunc (p := outP k) (f1.ext %X) rfl hn (nf hb1 o1)) ?_) | ((first | ((with_reducible refine newK_init ?_ ?_ ?_ ?_); (focus (intro b; simp only [evCore, reduceCtorEq, Nat.reduceEqDiff, Nat.reduceAdd, ↓reduceIte, Value.cells, tyAllRW08c]; done)); (focus (simp only [evCore, reduceCtorEq, Nat.reduceEqDiff, Nat.reduceAdd, ↓reduceIte, Value.cells, tyAllRW08c]; done)); (focus (intro b; simp only [evCore, reduceCtorEq, Nat.reduceEqDiff, Nat.reduceAdd, ↓reduceIte, Value.cells, tyAllRW08c]; done))) | ((with_reducible refine newK.id ?_); refine newK_intro ?_) | ((with_reducible refine RunA.id ?_); (first | with_reducible refine rbuild1 sl_38 ze_3 ?_ ?_ ?_); (focus (simp only [Value.cells, List.size_toArray, List.length_cons, List.length_nil]; done)); (focus decide)) | ((first | with_reducible refine bG1 sl_38 ze_3 ?_ ?_ ?_); (focus (simp only [Value.cells, List.size_toArray, List.length_cons, List.length_nil]; done)); (focus decide)) | ((with_reducible refine RunA.id ?_); (first | with_reducible refine rbuild2 sl_38 ze_3 rfl rfl ?_)) | (first | with_reducible refine bG2 sl_38 ze_3 rfl rfl ?_)); (first | (have := o2; intro b3 m1 hb3 n3 e1 o3; (try (have d31 := ne_of o1 n3; have d13 := d31.symm)); (try (have d32 := ne_of o2 n3; have d23 := d32.symm)); replace n3 := none_of X n3; (try simp only [evCore, reduceCtorEq, Nat.reduceEqDiff, Nat.reduceAdd, ↓reduceIte, Value.cells, tyAllRW08c] at o3)) | (have := o1; intro b2 m1 hb2 n2 e1 o2; (try (have d21 := ne_of o1 n2; have d12 := d21.symm)); replace n2 := none_of X n2; (try simp only [evCore, reduceCtorEq, Nat.reduceEqDiff, Nat.reduceAdd, ↓reduceIte, Value.cells, tyAllRW08c] at o2)) | (intro b1 m1 hb1 n1 e1 o1; replace n1 := none_of X n1; (try simp only [evCore, reduceCtorEq, Nat.reduceEqDiff, Nat.reduceAdd, ↓reduceIte, Value.cells, tyAllRW08c] at o1))); (try replace X := X.trans e1); (try replace P3 := P3.ext e1); (try (replace o1 := e1 _ _ o1; replace c1 := blk_facts hb1 o1)); (try (replace o2 := e1 _ _ o2; replace c2 := blk_facts hb2 o2)); (try (replace o3 := e1 _ _ o3; replace c3 := blk_facts hb3 o3)); (try have c1 := blk_facts hb1 o1); (try have c2 := blk_facts hb2 o2); (try have c3 := blk_facts hb3 o3)) | ((with_reducible refine CodeA.id ?_); (first | fail)) | ((with_reducible refine And.intro ?_ ?_); (focus omega)) | with_reducible refine cK_both _ _ _ _ _ _ (fun hc => ?_) (fun hc => ?_) | ((with_reducible refine gO_both _ _ (fun hc => ?_) (fun hc => ?_)) <;> (try simp only [Bool.not_true, Bool.not_false] at hc)) | ((with_reducible refine gH_both _ _ (fun hc => ?_) (fun hc => ?_)) <;> (try simp only [Bool.not_true, Bool.not_false] at hc)) | with_reducible refine pickK_both _ (fun hc => ?_) (fun hc => ?_))
      exact h _ X
    · have e : namedB l k = false := by unfold namedB; rw [h0, h1]; rfl
      rw [e]
      clear h0
      refine ⟨fun K h => ?_⟩
      refine en_187 (l := [.slice A l.length c, .int .i64 k]) (by simp [Try.ntmps187]) ?_
      have X : Ext m m := Ext.refl m
      simp (maxSteps := 2000000) only [Try.f187, Option.getD_some, vcCore, vcPlain, yieldT, Int.reduceEq, Int.reduceLT, Int.reduceLE, Int.reduceNe, ↓reduceIte, Nat.reduceEqDiff, Nat.reduceAdd, Nat.reduceLeDiff, Nat.reduceBEq, Value.cells, reduceCtorEq, tyAllRW08c, then_normal, Int.reduceBEq, Int.reduceBNe, Nat.reduceMul, Nat.reduceDiv, Int.reduceToNat, Int.reduceNeg, Int.reduceAdd, Int.reduceSub, Int.reduceMul, Nat.reduceSub, Nat.reduceLT, implies_true, imp_self, cvCore]
      repeat' (first | simp (maxSteps := 2000000) only [vcCore, vcPlain, yieldT, Int.reduceEq, Int.reduceLT, Int.reduceLE, Int.reduceNe, ↓reduceIte, Nat.reduceEqDiff, Nat.reduceAdd, Nat.reduceLeDiff, Nat.reduceBEq, Value.cells, reduceCtorEq, tyAllRW08c, then_normal, Int.reduceBEq, Int.reduceBNe, Nat.reduceMul, Nat.reduceDiv, Int.reduceToNat, Int.reduceNeg, Int.reduceAdd, Int.reduceSub, Int.reduceMul, Nat.reduceSub, Nat.reduceLT, implies_true, imp_self, cvCore, *] | ((first | (with_reducible refine Ret.use (sl_ContainsFunc (p := outP k) (f1.ext X) rfl hn (nf hb1 o1)) fun m1 e1 => ?_)); (try replace X := X.trans e1); (try replace P3 := P3.ext e1); (try (replace o1 := e1 _ _ o1; replace c1 := blk_facts hb1 o1)); (try (replace o2 := e1 _ _ o2; replace c2 := blk_facts hb2 o2)); (try (replace o3 := e1 _ _ o3; replace c3 := blk_facts hb3 o3))) | (with_reducible refine Ret.q (fun m1 e1 => sl_ContainsFunc (p := outP k) (f1.ext (X.trans e1)) rfl hn (nf hb1 o1)) ?_) | (with_reducible refine Ret.q0 (fun m1 e1 => sl_ContainsFunc (p := outP k) (f1.ext %X) rfl hn (nf hb1 o1)) ?_) | ((first | ((with_reducible refine newK_init ?_ ?_ ?_ ?_); (focus (intro b; simp only [evCore, reduceCtorEq, Nat.reduceEqDiff, Nat.reduceAdd, ↓reduceIte, Value.cells, tyAllRW08c]; done)); (focus (simp only [evCore, reduceCtorEq, Nat.reduceEqDiff, Nat.reduceAdd, ↓reduceIte, Value.cells, tyAllRW08c]; done)); (focus (intro b; simp only [evCore, reduceCtorEq, Nat.reduceEqDiff, Nat.reduceAdd, ↓reduceIte, Value.cells, tyAllRW08c]; done))) | ((with_reducible refine newK.id ?_); refine newK_intro ?_) | ((with_reducible refine RunA.id ?_); (first | with_reducible refine rbuild1 sl_38 ze_3 ?_ ?_ ?_); (focus (simp only [Value.cells, List.size_toArray, List.length_cons, List.length_nil]; done)); (focus decide)) | ((first | with_reducible refine bG1 sl_38 ze_3 ?_ ?_ ?_); (focus (simp only [Value.cells, List.size_toArray, List.length_cons, List.length_nil]; done)); (focus decide)) | ((with_reducible refine RunA.id ?_); (first | with_reducible refine rbuild2 sl_38 ze_3 rfl rfl ?_)) | (first | with_reducible refine bG2 sl_38 ze_3 rfl rfl ?_)); (first | (have := o2; intro b3 m1 hb3 n3 e1 o3; (try (have d31 := ne_of o1 n3; have d13 := d31.symm)); (try (have d32 := ne_of o2 n3; have d23 := d32.symm)); replace n3 := none_of X n3; (try simp only [evCore, reduceCtorEq, Nat.reduceEqDiff, Nat.reduceAdd, ↓reduceIte, Value.cells, tyAllRW08c] at o3)) | (have := o1; intro b2 m1 hb2 n2 e1 o2; (try (have d21 := ne_of o1 n2; have d12 := d21.symm)); replace n2 := none_of X n2; (try simp only [evCore, reduceCtorEq, Nat.reduceEqDiff, Nat.reduceAdd, ↓reduceIte, Value.cells, tyAllRW08c] at o2)) | (intro b1 m1 hb1 n1 e1 o1; replace n1 := none_of X n1; (try simp only [evCore, reduceCtorEq, Nat.reduceEqDiff, Nat.reduceAdd, ↓reduceIte, Value.cells, tyAllRW08c] at o1))); (try replace X := X.trans e1); (try replace P3 := P3.ext e1); (try (replace o1 := e1 _ _ o1; replace c1 := blk_facts hb1 o1)); (try (replace o2 := e1 _ _ o2; replace c2 := blk_facts hb2 o2)); (try (replace o3 := e1 _ _ o3; replace c3 := blk_facts hb3 o3)); (try have c1 := blk_facts hb1 o1); (try have c2 := blk_facts hb2 o2); (try have c3 := blk_facts hb3 o3)) | ((with_reducible refine CodeA.id ?_); (first | fail)) | ((with_reducible refine And.intro ?_ ?_); (focus omega)) | with_reducible refine cK_both _ _ _ _ _ _ (fun hc => ?_) (fun hc => ?_) | ((with_reducible refine gO_both _ _ (fun hc => ?_) (fun hc => ?_)) <;> (try simp only [Bool.not_true, Bool.not_false] at hc)) | ((with_reducible refine gH_both _ _ (fun hc => ?_) (fun hc => ?_)) <;> (try simp only [Bool.not_true, Bool.not_false] at hc)) | with_reducible refine pickK_both _ (fun hc => ?_) (fun hc => ?_))
      exact h _ X
  · have h0' : ((l.length : Int) == 0) = true := by have : l.length = 0 := by simpa using h0
                                                    rw [this]; rfl
    have e : namedB l k = false := by unfold namedB; rw [h0]; rfl
    rw [e]
    clear h0
    refine ⟨fun K h => ?_⟩
    refine en_187 (l := [.slice A l.length c, .int .i64 k]) (by simp [Try.ntmps187]) ?_
    have X : Ext m m := Ext.refl m
    simp (maxSteps := 2000000) only [Try.f187, Option.getD_some, vcCore, vcPlain, yieldT, Int.reduceEq, Int.reduceLT, Int.reduceLE, Int.reduceNe, ↓reduceIte, Nat.reduceEqDiff, Nat.reduceAdd, Nat.reduceLeDiff, Nat.reduceBEq, Value.cells, reduceCtorEq, tyAllRW08c, then_normal, Int.reduceBEq, Int.reduceBNe, Nat.reduceMul, Nat.reduceDiv, Int.reduceToNat, Int.reduceNeg, Int.reduceAdd, Int.reduceSub, Int.reduceMul, Nat.reduceSub, Nat.reduceLT, implies_true, imp_self, cvCore]
    repeat' (first | simp (maxSteps := 2000000) only [vcCore, vcPlain, yieldT, Int.reduceEq, Int.reduceLT, Int.reduceLE, Int.reduceNe, ↓reduceIte, Nat.reduceEqDiff, Nat.reduceAdd, Nat.reduceLeDiff, Nat.reduceBEq, Value.cells, reduceCtorEq, tyAllRW08c, then_normal, Int.reduceBEq, Int.reduceBNe, Nat.reduceMul, Nat.reduceDiv, Int.reduceToNat, Int.reduceNeg, Int.reduceAdd, Int.reduceSub, Int.reduceMul, Nat.reduceSub, Nat.reduceLT, implies_true, imp_self, cvCore, *] | ((first | ((with_reducible refine newK_init ?_ ?_ ?_ ?_); (focus (intro b; simp only [evCore, reduceCtorEq, Nat.reduceEqDiff, Nat.reduceAdd, ↓reduceIte, Value.cells, tyAllRW08c]; done)); (focus (simp only [evCore, reduceCtorEq, Nat.reduceEqDiff, Nat.reduceAdd, ↓reduceIte, Value.cells, tyAllRW08c]; done)); (focus (intro b; simp only [evCore, reduceCtorEq, Nat.reduceEqDiff, Nat.reduceAdd, ↓reduceIte, Value.cells, tyAllRW08c]; done))) | ((with_reducible refine newK.id ?_); refine newK_intro ?_) | ((with_reducible refine RunA.id ?_); (first | with_reducible refine rbuild1 sl_38 ze_3 ?_ ?_ ?_); (focus (simp only [Value.cells, List.size_toArray, List.length_cons, List.length_nil]; done)); (focus decide)) | ((first | with_reducible refine bG1 sl_38 ze_3 ?_ ?_ ?_); (focus (simp only [Value.cells, List.size_toArray, List.length_cons, List.length_nil]; done)); (focus decide)) | ((with_reducible refine RunA.id ?_); (first | with_reducible refine rbuild2 sl_38 ze_3 rfl rfl ?_)) | (first | with_reducible refine bG2 sl_38 ze_3 rfl rfl ?_)); (first | (have := o2; intro b3 m1 hb3 n3 e1 o3; (try (have d31 := ne_of o1 n3; have d13 := d31.symm)); (try (have d32 := ne_of o2 n3; have d23 := d32.symm)); replace n3 := none_of X n3; (try simp only [evCore, reduceCtorEq, Nat.reduceEqDiff, Nat.reduceAdd, ↓reduceIte, Value.cells, tyAllRW08c] at o3)) | (have := o1; intro b2 m1 hb2 n2 e1 o2; (try (have d21 := ne_of o1 n2; have d12 := d21.symm)); replace n2 := none_of X n2; (try simp only [evCore, reduceCtorEq, Nat.reduceEqDiff, Nat.reduceAdd, ↓reduceIte, Value.cells, tyAllRW08c] at o2)) | (intro b1 m1 hb1 n1 e1 o1; replace n1 := none_of X n1; (try simp only [evCore, reduceCtorEq, Nat.reduceEqDiff, Nat.reduceAdd, ↓reduceIte, Value.cells, tyAllRW08c] at o1))); (try replace X := X.trans e1); (try replace P3 := P3.ext e1); (try (replace o1 := e1 _ _ o1; replace c1 := blk_facts hb1 o1)); (try (replace o2 := e1 _ _ o2; replace c2 := blk_facts hb2 o2)); (try (replace o3 := e1 _ _ o3; replace c3 := blk_facts hb3 o3)); (try have c1 := blk_facts hb1 o1); (try have c2 := blk_facts hb2 o2); (try have c3 := blk_facts hb3 o3)) | ((with_reducible refine CodeA.id ?_); (first | fail)) | ((with_reducible refine And.intro ?_ ?_); (focus omega)) | with_reducible refine cK_both _ _ _ _ _ _ (fun hc => ?_) (fun hc => ?_) | ((with_reducible refine gO_both _ _ (fun hc => ?_) (fun hc => ?_)) <;> (try simp only [Bool.not_true, Bool.not_false] at hc)) | ((with_reducible refine gH_both _ _ (fun hc => ?_) (fun hc => ?_)) <;> (try simp only [Bool.not_true, Bool.not_false] at hc)) | with_reducible refine pickK_both _ (fun hc => ?_) (fun hc => ?_))
    exact h _ X
/-- One that stands ahead, or twice. -/
def twB : List Int → List Int → Bool
  | _, [] => false
  | s, y :: l => if y ∈ s then true else twB (s ++ [y]) l
abbrev encI (n : Int) : Value := .int .i64 n
abbrev okI (n : Int) : Prop := -9223372036854775808 ≤ n ∧ n ≤ 9223372036854775807
theorem un_mib : Try.prog.underlying 230 = some (.map 3 4) := by kernel_rfl
theorem key_int : KeyT Try.prog 3 encI okI := keyInt (by kernel_rfl)
theorem ze_bool : zeroV Try.prog 4 = some (.bool false) := by kernel_rfl
/-- A map of marks. -/
structure Mks (W0 : World) (m : Mem) (r : Nat) (s : List Int) : Prop where
  ms : MapS W0 m r encI okI (s.map fun y => (y, .bool true))
theorem mks_get (s : List Int) (y : Int) : (mget (s.map fun y => (y, Value.bool true)) y).getD (.bool false) = .bool (decide (y ∈ s)) := by
  induction s with
  | nil => rfl
  | cons x s ih =>
    unfold mget
    by_cases h : x = y
    · rw [List.map_cons]; simp [mget, h]
    · rw [List.map_cons]; simp only [mget, if_neg h, ih, List.mem_cons]
      congr 1
      rw [decide_eq_decide]
      exact ⟨.inr, fun z => z.resolve_left (fun e => h e.symm)⟩
theorem mks_put {s : List Int} {y : Int} (h : y ∉ s) : mput (s.map fun y => (y, Value.bool true)) y (.bool true) = (s ++ [y]).map fun y => (y, Value.bool true) := by
  rw [mput_none, List.map_append]; rfl
  intro p hp
  obtain ⟨z, hz, rfl⟩ := List.mem_map.1 hp
  exact fun e => h (e ▸ hz)
theorem valid_twice {m : Mem} {K : Value → Mem → Prop} {r : Nat} {s : List Int} {A : Option Addr} {c : Nat} {l : List Int} (M : Mks W0 m r s) (f1 : ∀ M', Keep m M' (some r) → RS W0 M' (.slice A l.length c) 1 l.length (i64 l)) (hn : l.length ≤ 9223372036854775807)
    (hw : ∀ y ∈ l, okI y) (h : ∀ m', (twB s l = false → Mks W0 m' r (s ++ l)) → Keep m m' (some r) → K (.bool (twB s l)) m') : CallA Try.prog W0 188 #[.map (some r), .slice A l.length c] m K := by
  refine en_188 (l := [.map (some r), .slice A l.length c]) (by simp [Try.ntmps188]) ?_
  have X : Ext m m := Ext.refl m
  simp (maxSteps := 2000000) only [Try.f188, Option.getD_some, vcCore, vcPlain, yieldT, Int.reduceEq, Int.reduceLT, Int.reduceLE, Int.reduceNe, ↓reduceIte, Nat.reduceEqDiff, Nat.reduceAdd, Nat.reduceLeDiff, Nat.reduceBEq, Value.cells, reduceCtorEq, tyAllRW08c, then_normal, Int.reduceBEq, Int.reduceBNe, Nat.reduceMul, Nat.reduceDiv, Int.reduceToNat, Int.reduceNeg, Int.reduceAdd, Int.reduceSub, Int.reduceMul, Nat.reduceSub, Nat.reduceLT, implies_true, imp_self, cvCore]
  repeat' (first | simp (maxSteps := 2000000) only [vcCore, vcPlain, yieldT, Int.reduceEq, Int.reduceLT, Int.reduceLE, Int.reduceNe, ↓reduceIte, Nat.reduceEqDiff, Nat.reduceAdd, Nat.reduceLeDiff, Nat.reduceBEq, Value.cells, reduceCtorEq, tyAllRW08c, then_normal, Int.reduceBEq, Int.reduceBNe, Nat.reduceMul, Nat.reduceDiv, Int.reduceToNat, Int.reduceNeg, Int.reduceAdd, Int.reduceSub, Int.reduceMul, Nat.reduceSub, Nat.reduceLT, implies_true, imp_self, cvCore, *] | ((with_reducible refine CodeA.id ?_); (first | fail)) | ((with_reducible refine And.intro ?_ ?_); (focus omega)) | with_reducible refine cK_both _ _ _ _ _ _ (fun hc => ?_) (fun hc => ?_) | ((with_reducible refine gO_both _ _ (fun hc => ?_) (fun hc => ?_)) <;> (try simp only [Bool.not_true, Bool.not_false] at hc)) | ((with_reducible refine gH_both _ _ (fun hc => ?_) (fun hc => ?_)) <;> (try simp only [Bool.not_true, Bool.not_false] at hc)) | with_reducible refine pickK_both _ (fun hc => ?_) (fun hc => ?_))
  refine loop_rule (fun d t m' => ∃ i : Nat, i ≤ l.length ∧ d = l.length - i ∧ t 0 = .map (some r) ∧ t 7 = .slice A l.length c ∧ t 8 = .int .i64 l.length ∧ t 9 = .int .i64 i ∧ Mks W0 m' r (s ++ l.take i) ∧ Keep m m' (some r) ∧ twB (s ++ l.take i) (l.drop i) = twB s l)
    l.length (by kernel_rfl) ⟨0, by omega, by omega, rfl, rfl, rfl, rfl, by simpa using M, Keep.refl _ _, by simp⟩ ?_
  clear X M
  rintro d t m' ⟨i, hi, rfl, t0, t7, t8, t9, M, kp, htw⟩
  have X := Ext.refl m'
  by_cases hlt : i < l.length
  · have h1 := nat_lt hlt
    have h2 := wrap_succ (i := i) (by omega)
    have h3 : (0 : Int) ≤ (i : Int) := by omega
    obtain ⟨y, hy⟩ := get_some hlt
    obtain ⟨a, rfl, hcell⟩ := (f1 _ kp).i64 hy
    have hyk := hw y (List.mem_of_getElem? hy)
    have htk := take_step hy
    rw [drop_step hy, twB] at htw
    replace htk : Hid _ := htk
    replace htw : Hid _ := htw
    have hc := hcell
    clear hcell hy
    repeat' (first | simp (maxSteps := 2000000) only [vcCore, vcPlain, yieldT, Int.reduceEq, Int.reduceLT, Int.reduceLE, Int.reduceNe, ↓reduceIte, Nat.reduceEqDiff, Nat.reduceAdd, Nat.reduceLeDiff, Nat.reduceBEq, Value.cells, reduceCtorEq, tyAllRW08c, then_normal, Int.reduceBEq, Int.reduceBNe, Nat.reduceMul, Nat.reduceDiv, Int.reduceToNat, Int.reduceNeg, Int.reduceAdd, Int.reduceSub, Int.reduceMul, Nat.reduceSub, Nat.reduceLT, implies_true, imp_self, cvCore, *, Nat.mul_one] | ((with_reducible refine CodeA.id ?_); (first | fail)) | ((with_reducible refine And.intro ?_ ?_); (focus omega)) | with_reducible refine cK_both _ _ _ _ _ _ (fun hc => ?_) (fun hc => ?_) | ((with_reducible refine gO_both _ _ (fun hc => ?_) (fun hc => ?_)) <;> (try simp only [Bool.not_true, Bool.not_false] at hc)) | ((with_reducible refine gH_both _ _ (fun hc => ?_) (fun hc => ?_)) <;> (try simp only [Bool.not_true, Bool.not_false] at hc)) | with_reducible refine pickK_both _ (fun hc => ?_) (fun hc => ?_))
    refine rmapGet (c := false) (a := y) key_int un_mib ze_bool M.ms hyk ?_
    simp only [Bool.false_eq_true, ↓reduceIte]
    rw [mks_get]
    replace htk : l.take (i + 1) = l.take i ++ [y] := htk
    replace htw : (if y ∈ s ++ l.take i then true else twB (s ++ l.take i ++ [y]) (l.drop (i + 1))) = twB s l := htw
    by_cases hm : y ∈ s ++ l.take i
    · rw [if_pos hm] at htw
      rw [decide_eq_true hm]
      rw [← htw] at h
      replace h : Hid _ := h
      clear htk htw
      repeat' (first | simp (maxSteps := 2000000) only [vcCore, vcPlain, yieldT, Int.reduceEq, Int.reduceLT, Int.reduceLE, Int.reduceNe, ↓reduceIte, Nat.reduceEqDiff, Nat.reduceAdd, Nat.reduceLeDiff, Nat.reduceBEq, Value.cells, reduceCtorEq, tyAllRW08c, then_normal, Int.reduceBEq, Int.reduceBNe, Nat.reduceMul, Nat.reduceDiv, Int.reduceToNat, Int.reduceNeg, Int.reduceAdd, Int.reduceSub, Int.reduceMul, Nat.reduceSub, Nat.reduceLT, implies_true, imp_self, cvCore, *] | ((with_reducible refine CodeA.id ?_); (first | fail)) | ((with_reducible refine And.intro ?_ ?_); (focus omega)) | with_reducible refine cK_both _ _ _ _ _ _ (fun hc => ?_) (fun hc => ?_) | ((with_reducible refine gO_both _ _ (fun hc => ?_) (fun hc => ?_)) <;> (try simp only [Bool.not_true, Bool.not_false] at hc)) | ((with_reducible refine gH_both _ _ (fun hc => ?_) (fun hc => ?_)) <;> (try simp only [Bool.not_true, Bool.not_false] at hc)) | with_reducible refine pickK_both _ (fun hc => ?_) (fun hc => ?_))
      exact (show ∀ m', (true = false → _) → Keep m m' (some r) → K (.bool true) m' from h) _ (fun e => by cases e) kp
    · rw [if_neg hm] at htw
      rw [decide_eq_false hm]
      replace htk : Hid _ := htk
      replace htw : Hid _ := htw
      repeat' (first | simp (maxSteps := 2000000) only [vcCore, vcPlain, yieldT, Int.reduceEq, Int.reduceLT, Int.reduceLE, Int.reduceNe, ↓reduceIte, Nat.reduceEqDiff, Nat.reduceAdd, Nat.reduceLeDiff, Nat.reduceBEq, Value.cells, reduceCtorEq, tyAllRW08c, then_normal, Int.reduceBEq, Int.reduceBNe, Nat.reduceMul, Nat.reduceDiv, Int.reduceToNat, Int.reduceNeg, Int.reduceAdd, Int.reduceSub, Int.reduceMul, Nat.reduceSub, Nat.reduceLT, implies_true, imp_self, cvCore, *] | ((with_reducible refine CodeA.id ?_); (first | fail)) | ((with_reducible refine And.intro ?_ ?_); (focus omega)) | with_reducible refine cK_both _ _ _ _ _ _ (fun hc => ?_) (fun hc => ?_) | ((with_reducible refine gO_both _ _ (fun hc => ?_) (fun hc => ?_)) <;> (try simp only [Bool.not_true, Bool.not_false] at hc)) | ((with_reducible refine gH_both _ _ (fun hc => ?_) (fun hc => ?_)) <;> (try simp only [Bool.not_true, Bool.not_false] at hc)) | with_reducible refine pickK_both _ (fun hc => ?_) (fun hc => ?_))
      refine rmapPut (a := y) key_int un_mib M.ms hyk fun m2 M2 k2 => ?_
      rw [mks_put hm, List.append_assoc, ← show l.take (i + 1) = l.take i ++ [y] from htk] at M2
      repeat' (first | simp (maxSteps := 2000000) only [vcCore, vcPlain, yieldT, Int.reduceEq, Int.reduceLT, Int.reduceLE, Int.reduceNe, ↓reduceIte, Nat.reduceEqDiff, Nat.reduceAdd, Nat.reduceLeDiff, Nat.reduceBEq, Value.cells, reduceCtorEq, tyAllRW08c, then_normal, Int.reduceBEq, Int.reduceBNe, Nat.reduceMul, Nat.reduceDiv, Int.reduceToNat, Int.reduceNeg, Int.reduceAdd, Int.reduceSub, Int.reduceMul, Nat.reduceSub, Nat.reduceLT, implies_true, imp_self, cvCore, *] | ((with_reducible refine CodeA.id ?_); (first | fail)) | ((with_reducible refine And.intro ?_ ?_); (focus omega)) | with_reducible refine cK_both _ _ _ _ _ _ (fun hc => ?_) (fun hc => ?_) | ((with_reducible refine gO_both _ _ (fun hc => ?_) (fun hc => ?_)) <;> (try simp only [Bool.not_true, Bool.not_false] at hc)) | ((with_reducible refine gH_both _ _ (fun hc => ?_) (fun hc => ?_)) <;> (try simp only [Bool.not_true, Bool.not_false] at hc)) | with_reducible refine pickK_both _ (fun hc => ?_) (fun hc => ?_))
      exact ⟨l.length - (i + 1), by omega, i + 1, by omega, rfl, t0, t7, t8, rfl, ⟨M2⟩, kp.trans k2, by rw [show l.take (i + 1) = l.take i ++ [y] from htk, ← List.append_assoc]; exact htw⟩
  · have h1 := nat_not_lt hlt
    rw [List.drop_eq_nil_of_le (by omega), List.take_of_length_le (by omega)] at htw
    rw [List.take_of_length_le (by omega)] at M
    have htw' : twB s l = false := htw.symm
    rw [htw'] at h
    replace h : Hid _ := h
    clear htw htw'
    repeat' (first | simp (maxSteps := 2000000) only [vcCore, vcPlain, yieldT, Int.reduceEq, Int.reduceLT, Int.reduceLE, Int.reduceNe, ↓reduceIte, Nat.reduceEqDiff, Nat.reduceAdd, Nat.reduceLeDiff, Nat.reduceBEq, Value.cells, reduceCtorEq, tyAllRW08c, then_normal, Int.reduceBEq, Int.reduceBNe, Nat.reduceMul, Nat.reduceDiv, Int.reduceToNat, Int.reduceNeg, Int.reduceAdd, Int.reduceSub, Int.reduceMul, Nat.reduceSub, Nat.reduceLT, implies_true, imp_self, cvCore, *] | ((with_reducible refine CodeA.id ?_); (first | fail)) | ((with_reducible refine And.intro ?_ ?_); (focus omega)) | with_reducible refine cK_both _ _ _ _ _ _ (fun hc => ?_) (fun hc => ?_) | ((with_reducible refine gO_both _ _ (fun hc => ?_) (fun hc => ?_)) <;> (try simp only [Bool.not_true, Bool.not_false] at hc)) | ((with_reducible refine gH_both _ _ (fun hc => ?_) (fun hc => ?_)) <;> (try simp only [Bool.not_true, Bool.not_false] at hc)) | with_reducible refine pickK_both _ (fun hc => ?_) (fun hc => ?_))
    exact (show ∀ m', (false = false → Mks W0 m' r (s ++ l)) → Keep m m' (some r) → K (.bool false) m' from h) _ (fun _ => M) kp
end
end Go.Proofs.Ytcddhbhdpleppaa.R
