/- The document's answers of the validity layer, over the logic of partial memories. No conditions. -/
import Derived.Test.YtcddhbhdpleppaaRZ
import Derived.Test.YtcddhbhdpleppaaSLoadTellsRW08e
set_option linter.unusedVariables false
set_option linter.unusedSimpArgs false
namespace Go.Proofs.Ytcddhbhdpleppaa.R
open Go Go.RowKit Go.Proofs.Ytcddhbhdpleppaa
set_option maxRecDepth 100000
set_option maxHeartbeats 8000000
theorem tyAllRW08f : type_of% (And.intro ty_3 (And.intro ty_4 ty_38)) := (And.intro ty_3 (And.intro ty_4 ty_38))
section
variable {W0 : World}
theorem ref08_has {m : Mem} {A : Option Addr} {n c : Nat} {l : List Int} {x : Int} (f1 : RS W0 m (.slice A n c) 1 n (i64 l)) (hl : l.length = n) (hn : n ≤ 9223372036854775807) :
    Ret Try.prog W0 160 #[.slice A n c, .int .i64 x] m (.bool (decide (x ∈ l))) := by
  refine ⟨fun K h => ?_⟩
  refine en_160 (l := [.slice A n c, .int .i64 x]) (by simp [Try.ntmps160]) ?_
  have X : Ext m m := Ext.refl m
  simp (maxSteps := 2000000) only [Try.f160, Option.getD_some, vcCore, vcPlain, yieldT, Int.reduceEq, Int.reduceLT, Int.reduceLE, Int.reduceNe, ↓reduceIte, Nat.reduceEqDiff, Nat.reduceAdd, Nat.reduceLeDiff, Nat.reduceBEq, Value.cells, reduceCtorEq, tyAllRW08f, then_normal, Int.reduceBEq, Int.reduceBNe, Nat.reduceMul, Nat.reduceDiv, Int.reduceToNat, Int.reduceNeg, Int.reduceAdd, Int.reduceSub, Int.reduceMul, Nat.reduceSub, Nat.reduceLT, implies_true, imp_self, cvCore]
  repeat' (first | simp (maxSteps := 2000000) only [vcCore, vcPlain, yieldT, Int.reduceEq, Int.reduceLT, Int.reduceLE, Int.reduceNe, ↓reduceIte, Nat.reduceEqDiff, Nat.reduceAdd, Nat.reduceLeDiff, Nat.reduceBEq, Value.cells, reduceCtorEq, tyAllRW08f, then_normal, Int.reduceBEq, Int.reduceBNe, Nat.reduceMul, Nat.reduceDiv, Int.reduceToNat, Int.reduceNeg, Int.reduceAdd, Int.reduceSub, Int.reduceMul, Nat.reduceSub, Nat.reduceLT, implies_true, imp_self, cvCore, *] | ((with_reducible refine CodeA.id ?_); (first | fail)) | ((with_reducible refine And.intro ?_ ?_); (focus omega)) | with_reducible refine cK_both _ _ _ _ _ _ (fun hc => ?_) (fun hc => ?_) | ((with_reducible refine gO_both _ _ (fun hc => ?_) (fun hc => ?_)) <;> (try simp only [Bool.not_true, Bool.not_false] at hc)) | ((with_reducible refine gH_both _ _ (fun hc => ?_) (fun hc => ?_)) <;> (try simp only [Bool.not_true, Bool.not_false] at hc)) | with_reducible refine pickK_both _ (fun hc => ?_) (fun hc => ?_))
  refine loop_rule (fun d t m' => m' = m ∧ ∃ i : Nat, i ≤ n ∧ d = n - i ∧ t 0 = .slice A n c ∧ t 1 = .int .i64 x ∧ t 5 = .int .i64 i ∧ decide (x ∈ l.drop i) = decide (x ∈ l)) n (by kernel_rfl) ⟨rfl, 0, by omega, by omega, rfl, rfl, rfl, by simp⟩ ?_
  clear X
  rintro d t m' ⟨rfl, i, hi, rfl, t0, t1, t5, hz⟩
  have X := Ext.refl m'
  by_cases hlt : i < n
  · have h1 := nat_lt hlt
    have h2 := wrap_succ (i := i) (by omega)
    have h3 : (0 : Int) ≤ (i : Int) := by omega
    obtain ⟨y, hy⟩ := get_some (l := l) (i := i) (by omega)
    obtain ⟨a, rfl, hc⟩ := f1.i64 hy
    rw [drop_step hy] at hz
    clear hy
    by_cases he : y = x
    · have he' : (y == x) = true := beq_iff_eq.2 he
      rw [decide_eq_true (by rw [he]; exact List.mem_cons_self ..)] at hz
      rw [← hz] at h
      clear he hz
      repeat' (first | simp (maxSteps := 2000000) only [vcCore, vcPlain, yieldT, Int.reduceEq, Int.reduceLT, Int.reduceLE, Int.reduceNe, ↓reduceIte, Nat.reduceEqDiff, Nat.reduceAdd, Nat.reduceLeDiff, Nat.reduceBEq, Value.cells, reduceCtorEq, tyAllRW08f, then_normal, Int.reduceBEq, Int.reduceBNe, Nat.reduceMul, Nat.reduceDiv, Int.reduceToNat, Int.reduceNeg, Int.reduceAdd, Int.reduceSub, Int.reduceMul, Nat.reduceSub, Nat.reduceLT, implies_true, imp_self, cvCore, *, Nat.mul_one] | ((with_reducible refine CodeA.id ?_); (first | fail)) | ((with_reducible refine And.intro ?_ ?_); (focus omega)) | with_reducible refine cK_both _ _ _ _ _ _ (fun hc => ?_) (fun hc => ?_) | ((with_reducible refine gO_both _ _ (fun hc => ?_) (fun hc => ?_)) <;> (try simp only [Bool.not_true, Bool.not_false] at hc)) | ((with_reducible refine gH_both _ _ (fun hc => ?_) (fun hc => ?_)) <;> (try simp only [Bool.not_true, Bool.not_false] at hc)) | with_reducible refine pickK_both _ (fun hc => ?_) (fun hc => ?_))
    · have he' : (y == x) = false := beq_no he
      rw [decide_eq_decide.2 (show x ∈ y :: l.drop (i + 1) ↔ x ∈ l.drop (i + 1) from ⟨fun q => (List.mem_cons.1 q).resolve_left (fun e => he e.symm), List.mem_cons_of_mem _⟩)] at hz
      replace hz : Hid _ := hz
      repeat' (first | simp (maxSteps := 2000000) only [vcCore, vcPlain, yieldT, Int.reduceEq, Int.reduceLT, Int.reduceLE, Int.reduceNe, ↓reduceIte, Nat.reduceEqDiff, Nat.reduceAdd, Nat.reduceLeDiff, Nat.reduceBEq, Value.cells, reduceCtorEq, tyAllRW08f, then_normal, Int.reduceBEq, Int.reduceBNe, Nat.reduceMul, Nat.reduceDiv, Int.reduceToNat, Int.reduceNeg, Int.reduceAdd, Int.reduceSub, Int.reduceMul, Nat.reduceSub, Nat.reduceLT, implies_true, imp_self, cvCore, *, Nat.mul_one] | ((with_reducible refine CodeA.id ?_); (first | fail)) | ((with_reducible refine And.intro ?_ ?_); (focus omega)) | with_reducible refine cK_both _ _ _ _ _ _ (fun hc => ?_) (fun hc => ?_) | ((with_reducible refine gO_both _ _ (fun hc => ?_) (fun hc => ?_)) <;> (try simp only [Bool.not_true, Bool.not_false] at hc)) | ((with_reducible refine gH_both _ _ (fun hc => ?_) (fun hc => ?_)) <;> (try simp only [Bool.not_true, Bool.not_false] at hc)) | with_reducible refine pickK_both _ (fun hc => ?_) (fun hc => ?_))
      exact ⟨n - (i + 1), by omega, rfl, i + 1, by omega, rfl, t0, t1, rfl, hz⟩
  · have h1 := nat_not_lt hlt
    rw [List.drop_eq_nil_of_le (by omega)] at hz
    have hz' : decide (x ∈ l) = false := by rw [← hz]; simp
    rw [hz'] at h
    clear hz hz'
    repeat' (first | simp (maxSteps := 2000000) only [vcCore, vcPlain, yieldT, Int.reduceEq, Int.reduceLT, Int.reduceLE, Int.reduceNe, ↓reduceIte, Nat.reduceEqDiff, Nat.reduceAdd, Nat.reduceLeDiff, Nat.reduceBEq, Value.cells, reduceCtorEq, tyAllRW08f, then_normal, Int.reduceBEq, Int.reduceBNe, Nat.reduceMul, Nat.reduceDiv, Int.reduceToNat, Int.reduceNeg, Int.reduceAdd, Int.reduceSub, Int.reduceMul, Nat.reduceSub, Nat.reduceLT, implies_true, imp_self, cvCore, *] | ((with_reducible refine CodeA.id ?_); (first | fail)) | ((with_reducible refine And.intro ?_ ?_); (focus omega)) | with_reducible refine cK_both _ _ _ _ _ _ (fun hc => ?_) (fun hc => ?_) | ((with_reducible refine gO_both _ _ (fun hc => ?_) (fun hc => ?_)) <;> (try simp only [Bool.not_true, Bool.not_false] at hc)) | ((with_reducible refine gH_both _ _ (fun hc => ?_) (fun hc => ?_)) <;> (try simp only [Bool.not_true, Bool.not_false] at hc)) | with_reducible refine pickK_both _ (fun hc => ?_) (fun hc => ?_))
theorem ref08_named {m : Mem} {A : Option Addr} {n c : Nat} {l : List Int} {k : Int} (f1 : RS W0 m (.slice A n c) 1 n (i64 l)) (hl : l.length = n) (hn : n ≤ 9223372036854775807) :
    Ret Try.prog W0 158 #[.slice A n c, .int .i64 k] m (.bool (namedB l k)) := by
  have hnb : namedB l k = !(n == 0 || l.any (outP k)) := by unfold namedB; rw [hl]
  rw [hnb]
  refine ⟨fun K h => ?_⟩
  refine en_158 (l := [.slice A n c, .int .i64 k]) (by simp [Try.ntmps158]) ?_
  have X : Ext m m := Ext.refl m
  simp (maxSteps := 2000000) only [Try.f158, Option.getD_some, vcCore, vcPlain, yieldT, Int.reduceEq, Int.reduceLT, Int.reduceLE, Int.reduceNe, ↓reduceIte, Nat.reduceEqDiff, Nat.reduceAdd, Nat.reduceLeDiff, Nat.reduceBEq, Value.cells, reduceCtorEq, tyAllRW08f, then_normal, Int.reduceBEq, Int.reduceBNe, Nat.reduceMul, Nat.reduceDiv, Int.reduceToNat, Int.reduceNeg, Int.reduceAdd, Int.reduceSub, Int.reduceMul, Nat.reduceSub, Nat.reduceLT, implies_true, imp_self, cvCore]
  replace h : Hid _ := h
  repeat' (first | simp (maxSteps := 2000000) only [vcCore, vcPlain, yieldT, Int.reduceEq, Int.reduceLT, Int.reduceLE, Int.reduceNe, ↓reduceIte, Nat.reduceEqDiff, Nat.reduceAdd, Nat.reduceLeDiff, Nat.reduceBEq, Value.cells, reduceCtorEq, tyAllRW08f, then_normal, Int.reduceBEq, Int.reduceBNe, Nat.reduceMul, Nat.reduceDiv, Int.reduceToNat, Int.reduceNeg, Int.reduceAdd, Int.reduceSub, Int.reduceMul, Nat.reduceSub, Nat.reduceLT, implies_true, imp_self, cvCore, *] | ((with_reducible refine CodeA.id ?_); (first | fail)) | ((with_reducible refine And.intro ?_ ?_); (focus omega)) | with_reducible refine cK_both _ _ _ _ _ _ (fun hc => ?_) (fun hc => ?_) | ((with_reducible refine gO_both _ _ (fun hc => ?_) (fun hc => ?_)) <;> (try simp only [Bool.not_true, Bool.not_false] at hc)) | ((with_reducible refine gH_both _ _ (fun hc => ?_) (fun hc => ?_)) <;> (try simp only [Bool.not_true, Bool.not_false] at hc)) | with_reducible refine pickK_both _ (fun hc => ?_) (fun hc => ?_))
  refine loop_rule (fun d t m' => m' = m ∧ ∃ i : Nat, i ≤ n ∧ d = n - i ∧ t 0 = .slice A n c ∧ t 1 = .int .i64 k ∧ t 5 = .int .i64 i ∧ (l.drop i).any (outP k) = l.any (outP k)) n (by kernel_rfl) ⟨rfl, 0, by omega, by omega, rfl, rfl, rfl, by simp⟩ ?_
  clear X hnb
  rintro d t m' ⟨rfl, i, hi, rfl, t0, t1, t5, hz⟩
  have X := Ext.refl m'
  replace h : ∀ m'', Ext m' m'' → K (.bool (!(n == 0 || l.any (outP k)))) m'' := h
  by_cases hlt : i < n
  · have h1 := nat_lt hlt
    have h2 := wrap_succ (i := i) (by omega)
    have h3 : (0 : Int) ≤ (i : Int) := by omega
    obtain ⟨y, hy⟩ := get_some (l := l) (i := i) (by omega)
    obtain ⟨a, rfl, hc⟩ := f1.i64 hy
    rw [drop_step hy, List.any_cons] at hz
    clear hy
    by_cases he : outP k y = true
    · rw [he, Bool.true_or] at hz
      rw [← hz, Bool.or_true] at h
      have ho : y < 0 ∨ (¬ y < 0 ∧ k ≤ y) := by unfold outP at he; simp at he; omega
      clear he hz
      rcases ho with g | ⟨g, g'⟩
      · repeat' (first | simp (maxSteps := 2000000) only [vcCore, vcPlain, yieldT, Int.reduceEq, Int.reduceLT, Int.reduceLE, Int.reduceNe, ↓reduceIte, Nat.reduceEqDiff, Nat.reduceAdd, Nat.reduceLeDiff, Nat.reduceBEq, Value.cells, reduceCtorEq, tyAllRW08f, then_normal, Int.reduceBEq, Int.reduceBNe, Nat.reduceMul, Nat.reduceDiv, Int.reduceToNat, Int.reduceNeg, Int.reduceAdd, Int.reduceSub, Int.reduceMul, Nat.reduceSub, Nat.reduceLT, implies_true, imp_self, cvCore, *, Nat.mul_one] | ((with_reducible refine CodeA.id ?_); (first | fail)) | ((with_reducible refine And.intro ?_ ?_); (focus omega)) | with_reducible refine cK_both _ _ _ _ _ _ (fun hc => ?_) (fun hc => ?_) | ((with_reducible refine gO_both _ _ (fun hc => ?_) (fun hc => ?_)) <;> (try simp only [Bool.not_true, Bool.not_false] at hc)) | ((with_reducible refine gH_both _ _ (fun hc => ?_) (fun hc => ?_)) <;> (try simp only [Bool.not_true, Bool.not_false] at hc)) | with_reducible refine pickK_both _ (fun hc => ?_) (fun hc => ?_))
        exact h _ X
      · repeat' (first | simp (maxSteps := 2000000) only [vcCore, vcPlain, yieldT, Int.reduceEq, Int.reduceLT, Int.reduceLE, Int.reduceNe, ↓reduceIte, Nat.reduceEqDiff, Nat.reduceAdd, Nat.reduceLeDiff, Nat.reduceBEq, Value.cells, reduceCtorEq, tyAllRW08f, then_normal, Int.reduceBEq, Int.reduceBNe, Nat.reduceMul, Nat.reduceDiv, Int.reduceToNat, Int.reduceNeg, Int.reduceAdd, Int.reduceSub, Int.reduceMul, Nat.reduceSub, Nat.reduceLT, implies_true, imp_self, cvCore, *, Nat.mul_one] | ((with_reducible refine CodeA.id ?_); (first | fail)) | ((with_reducible refine And.intro ?_ ?_); (focus omega)) | with_reducible refine cK_both _ _ _ _ _ _ (fun hc => ?_) (fun hc => ?_) | ((with_reducible refine gO_both _ _ (fun hc => ?_) (fun hc => ?_)) <;> (try simp only [Bool.not_true, Bool.not_false] at hc)) | ((with_reducible refine gH_both _ _ (fun hc => ?_) (fun hc => ?_)) <;> (try simp only [Bool.not_true, Bool.not_false] at hc)) | with_reducible refine pickK_both _ (fun hc => ?_) (fun hc => ?_))
        exact h _ X
    · rw [show outP k y = false by simpa using he, Bool.false_or] at hz
      have g : ¬ y < 0 := by unfold outP at he; simp at he; omega
      have g' : ¬ k ≤ y := by unfold outP at he; simp at he; omega
      replace hz : Hid _ := hz
      replace h : Hid _ := h
      clear he
      repeat' (first | simp (maxSteps := 2000000) only [vcCore, vcPlain, yieldT, Int.reduceEq, Int.reduceLT, Int.reduceLE, Int.reduceNe, ↓reduceIte, Nat.reduceEqDiff, Nat.reduceAdd, Nat.reduceLeDiff, Nat.reduceBEq, Value.cells, reduceCtorEq, tyAllRW08f, then_normal, Int.reduceBEq, Int.reduceBNe, Nat.reduceMul, Nat.reduceDiv, Int.reduceToNat, Int.reduceNeg, Int.reduceAdd, Int.reduceSub, Int.reduceMul, Nat.reduceSub, Nat.reduceLT, implies_true, imp_self, cvCore, *, Nat.mul_one] | ((with_reducible refine CodeA.id ?_); (first | fail)) | ((with_reducible refine And.intro ?_ ?_); (focus omega)) | with_reducible refine cK_both _ _ _ _ _ _ (fun hc => ?_) (fun hc => ?_) | ((with_reducible refine gO_both _ _ (fun hc => ?_) (fun hc => ?_)) <;> (try simp only [Bool.not_true, Bool.not_false] at hc)) | ((with_reducible refine gH_both _ _ (fun hc => ?_) (fun hc => ?_)) <;> (try simp only [Bool.not_true, Bool.not_false] at hc)) | with_reducible refine pickK_both _ (fun hc => ?_) (fun hc => ?_))
      exact ⟨n - (i + 1), by omega, rfl, i + 1, by omega, rfl, t0, t1, rfl, hz⟩
  · have h1 := nat_not_lt hlt
    rw [List.drop_eq_nil_of_le (by omega)] at hz
    have hz' : l.any (outP k) = false := by rw [← hz]; rfl
    rw [hz', Bool.or_false] at h
    clear hz hz'
    by_cases h0 : n = 0
    · have g : ¬ (0 : Int) < (n : Int) := by omega
      rw [show (n == 0) = true by rw [h0]; rfl] at h
      clear h0
      repeat' (first | simp (maxSteps := 2000000) only [vcCore, vcPlain, yieldT, Int.reduceEq, Int.reduceLT, Int.reduceLE, Int.reduceNe, ↓reduceIte, Nat.reduceEqDiff, Nat.reduceAdd, Nat.reduceLeDiff, Nat.reduceBEq, Value.cells, reduceCtorEq, tyAllRW08f, then_normal, Int.reduceBEq, Int.reduceBNe, Nat.reduceMul, Nat.reduceDiv, Int.reduceToNat, Int.reduceNeg, Int.reduceAdd, Int.reduceSub, Int.reduceMul, Nat.reduceSub, Nat.reduceLT, implies_true, imp_self, cvCore, *] | ((with_reducible refine CodeA.id ?_); (first | fail)) | ((with_reducible refine And.intro ?_ ?_); (focus omega)) | with_reducible refine cK_both _ _ _ _ _ _ (fun hc => ?_) (fun hc => ?_) | ((with_reducible refine gO_both _ _ (fun hc => ?_) (fun hc => ?_)) <;> (try simp only [Bool.not_true, Bool.not_false] at hc)) | ((with_reducible refine gH_both _ _ (fun hc => ?_) (fun hc => ?_)) <;> (try simp only [Bool.not_true, Bool.not_false] at hc)) | with_reducible refine pickK_both _ (fun hc => ?_) (fun hc => ?_))
      exact h _ X
    · have g : (0 : Int) < (n : Int) := by omega
      rw [show (n == 0) = false by simpa using h0] at h
      clear h0
      repeat' (first | simp (maxSteps := 2000000) only [vcCore, vcPlain, yieldT, Int.reduceEq, Int.reduceLT, Int.reduceLE, Int.reduceNe, ↓reduceIte, Nat.reduceEqDiff, Nat.reduceAdd, Nat.reduceLeDiff, Nat.reduceBEq, Value.cells, reduceCtorEq, tyAllRW08f, then_normal, Int.reduceBEq, Int.reduceBNe, Nat.reduceMul, Nat.reduceDiv, Int.reduceToNat, Int.reduceNeg, Int.reduceAdd, Int.reduceSub, Int.reduceMul, Nat.reduceSub, Nat.reduceLT, implies_true, imp_self, cvCore, *] | ((with_reducible refine CodeA.id ?_); (first | fail)) | ((with_reducible refine And.intro ?_ ?_); (focus omega)) | with_reducible refine cK_both _ _ _ _ _ _ (fun hc => ?_) (fun hc => ?_) | ((with_reducible refine gO_both _ _ (fun hc => ?_) (fun hc => ?_)) <;> (try simp only [Bool.not_true, Bool.not_false] at hc)) | ((with_reducible refine gH_both _ _ (fun hc => ?_) (fun hc => ?_)) <;> (try simp only [Bool.not_true, Bool.not_false] at hc)) | with_reducible refine pickK_both _ (fun hc => ?_) (fun hc => ?_))
      exact h _ X
theorem ref08_twice {m : Mem} {A : Option Addr} {n c : Nat} {l : List Int} (f1 : RS W0 m (.slice A n c) 1 n (i64 l)) (hl : l.length = n) (hn : n ≤ 9223372036854775807) (hc : n ≤ c) :
    Ret Try.prog W0 159 #[.slice A n c] m (.bool (twB [] l)) := by
  refine ⟨fun K h => ?_⟩
  refine en_159 (l := [.slice A n c]) (by simp [Try.ntmps159]) ?_
  have X : Ext m m := Ext.refl m
  simp (maxSteps := 2000000) only [Try.f159, Option.getD_some, vcCore, vcPlain, yieldT, Int.reduceEq, Int.reduceLT, Int.reduceLE, Int.reduceNe, ↓reduceIte, Nat.reduceEqDiff, Nat.reduceAdd, Nat.reduceLeDiff, Nat.reduceBEq, Value.cells, reduceCtorEq, tyAllRW08f, then_normal, Int.reduceBEq, Int.reduceBNe, Nat.reduceMul, Nat.reduceDiv, Int.reduceToNat, Int.reduceNeg, Int.reduceAdd, Int.reduceSub, Int.reduceMul, Nat.reduceSub, Nat.reduceLT, implies_true, imp_self, cvCore]
  repeat' (first | simp (maxSteps := 2000000) only [vcCore, vcPlain, yieldT, Int.reduceEq, Int.reduceLT, Int.reduceLE, Int.reduceNe, ↓reduceIte, Nat.reduceEqDiff, Nat.reduceAdd, Nat.reduceLeDiff, Nat.reduceBEq, Value.cells, reduceCtorEq, tyAllRW08f, then_normal, Int.reduceBEq, Int.reduceBNe, Nat.reduceMul, Nat.reduceDiv, Int.reduceToNat, Int.reduceNeg, Int.reduceAdd, Int.reduceSub, Int.reduceMul, Nat.reduceSub, Nat.reduceLT, implies_true, imp_self, cvCore, *] | ((with_reducible refine CodeA.id ?_); (first | ((with_reducible refine CodeA.sz 8 ?_ ?_); (focus rfl); refine draw_any [0, 1, 2, 3, 4, 5, 6, 7] 100 [] mixed (by kernel_rfl) (by kernel_rfl) ?_))) | ((with_reducible refine And.intro ?_ ?_); (focus omega)) | with_reducible refine cK_both _ _ _ _ _ _ (fun hc => ?_) (fun hc => ?_) | ((with_reducible refine gO_both _ _ (fun hc => ?_) (fun hc => ?_)) <;> (try simp only [Bool.not_true, Bool.not_false] at hc)) | ((with_reducible refine gH_both _ _ (fun hc => ?_) (fun hc => ?_)) <;> (try simp only [Bool.not_true, Bool.not_false] at hc)) | with_reducible refine pickK_both _ (fun hc => ?_) (fun hc => ?_))
  refine loop_rule (fun d t m' => Ext m m' ∧ ∃ i : Nat, i ≤ n ∧ d = n - i ∧ t 0 = .slice A n c ∧ t 3 = .int .i64 i ∧ twB (l.take i) (l.drop i) = twB [] l) n (by kernel_rfl) ⟨X, 0, by omega, by omega, rfl, rfl, by simp⟩ ?_
  clear X
  rintro d t m' ⟨X, i, hi, rfl, t0, t3, hz⟩
  by_cases hlt : i < n
  · have h1 := nat_lt hlt
    have h2 := wrap_succ (i := i) (by omega)
    have h3 : (0 : Int) ≤ (i : Int) := by omega
    have h4 : (i : Int) ≤ (c : Int) := by omega
    obtain ⟨y, hy⟩ := get_some (l := l) (i := i) (by omega)
    obtain ⟨a, rfl, hcl⟩ := (f1.ext X).i64 hy
    have hh : ∀ M, Ext m M → Ret Try.prog W0 160 #[.slice (some a) i c, .int .i64 y] M (.bool (decide (y ∈ l.take i))) := fun M e =>
      ref08_has ((f1.ext e).take' (by omega)) (by simp; omega) (by omega)
    have htk := take_step hy
    rw [drop_step hy, twB, ← htk] at hz
    clear hy htk
    by_cases he : y ∈ l.take i
    · rw [if_pos he] at hz
      rw [decide_eq_true he] at hh
      rw [← hz] at h
      clear he hz
      repeat' (first | simp (maxSteps := 2000000) only [vcCore, vcPlain, yieldT, Int.reduceEq, Int.reduceLT, Int.reduceLE, Int.reduceNe, ↓reduceIte, Nat.reduceEqDiff, Nat.reduceAdd, Nat.reduceLeDiff, Nat.reduceBEq, Value.cells, reduceCtorEq, tyAllRW08f, then_normal, Int.reduceBEq, Int.reduceBNe, Nat.reduceMul, Nat.reduceDiv, Int.reduceToNat, Int.reduceNeg, Int.reduceAdd, Int.reduceSub, Int.reduceMul, Nat.reduceSub, Nat.reduceLT, implies_true, imp_self, cvCore, *, Nat.mul_one] | ((first | (with_reducible refine Ret.use (hh _ X) fun m1 e1 => ?_)); (try replace X := X.trans e1); (try replace P3 := P3.ext e1); (try (replace o1 := e1 _ _ o1; replace c1 := blk_facts hb1 o1)); (try (replace o2 := e1 _ _ o2; replace c2 := blk_facts hb2 o2))) | (with_reducible refine Ret.q (fun m1 e1 => hh _ (X.trans e1)) ?_) | (with_reducible refine Ret.q0 (fun m1 e1 => hh _ %X) ?_) | ((first | with_reducible refine rsl_hZ sl_38 ?_ ?_ ?_); (iterate 2 (focus (first | omega | (simp only [*] <;> omega))))) | ((first | with_reducible refine rsl_lZ sl_38 ?_ ?_ ?_); (iterate 2 (focus (first | omega | (simp only [*] <;> omega))))) | ((with_reducible refine CodeA.id ?_); (first | ((with_reducible refine CodeA.sz 8 ?_ ?_); (focus rfl); refine draw_any [0, 1, 2, 3, 4, 5, 6, 7] 100 [] mixed (by kernel_rfl) (by kernel_rfl) ?_))) | ((with_reducible refine And.intro ?_ ?_); (focus omega)) | with_reducible refine cK_both _ _ _ _ _ _ (fun hc => ?_) (fun hc => ?_) | ((with_reducible refine gO_both _ _ (fun hc => ?_) (fun hc => ?_)) <;> (try simp only [Bool.not_true, Bool.not_false] at hc)) | ((with_reducible refine gH_both _ _ (fun hc => ?_) (fun hc => ?_)) <;> (try simp only [Bool.not_true, Bool.not_false] at hc)) | with_reducible refine pickK_both _ (fun hc => ?_) (fun hc => ?_))
    · rw [if_neg he] at hz
      rw [decide_eq_false he] at hh
      replace hz : Hid _ := hz
      clear he
      repeat' (first | simp (maxSteps := 2000000) only [vcCore, vcPlain, yieldT, Int.reduceEq, Int.reduceLT, Int.reduceLE, Int.reduceNe, ↓reduceIte, Nat.reduceEqDiff, Nat.reduceAdd, Nat.reduceLeDiff, Nat.reduceBEq, Value.cells, reduceCtorEq, tyAllRW08f, then_normal, Int.reduceBEq, Int.reduceBNe, Nat.reduceMul, Nat.reduceDiv, Int.reduceToNat, Int.reduceNeg, Int.reduceAdd, Int.reduceSub, Int.reduceMul, Nat.reduceSub, Nat.reduceLT, implies_true, imp_self, cvCore, *, Nat.mul_one] | ((first | (with_reducible refine Ret.use (hh _ X) fun m1 e1 => ?_)); (try replace X := X.trans e1); (try replace P3 := P3.ext e1); (try (replace o1 := e1 _ _ o1; replace c1 := blk_facts hb1 o1)); (try (replace o2 := e1 _ _ o2; replace c2 := blk_facts hb2 o2))) | (with_reducible refine Ret.q (fun m1 e1 => hh _ (X.trans e1)) ?_) | (with_reducible refine Ret.q0 (fun m1 e1 => hh _ %X) ?_) | ((first | with_reducible refine rsl_hZ sl_38 ?_ ?_ ?_); (iterate 2 (focus (first | omega | (simp only [*] <;> omega))))) | ((first | with_reducible refine rsl_lZ sl_38 ?_ ?_ ?_); (iterate 2 (focus (first | omega | (simp only [*] <;> omega))))) | ((with_reducible refine CodeA.id ?_); (first | ((with_reducible refine CodeA.sz 8 ?_ ?_); (focus rfl); refine draw_any [0, 1, 2, 3, 4, 5, 6, 7] 100 [] mixed (by kernel_rfl) (by kernel_rfl) ?_))) | ((with_reducible refine And.intro ?_ ?_); (focus omega)) | with_reducible refine cK_both _ _ _ _ _ _ (fun hc => ?_) (fun hc => ?_) | ((with_reducible refine gO_both _ _ (fun hc => ?_) (fun hc => ?_)) <;> (try simp only [Bool.not_true, Bool.not_false] at hc)) | ((with_reducible refine gH_both _ _ (fun hc => ?_) (fun hc => ?_)) <;> (try simp only [Bool.not_true, Bool.not_false] at hc)) | with_reducible refine pickK_both _ (fun hc => ?_) (fun hc => ?_))
      exact ⟨n - (i + 1), by omega, X, i + 1, by omega, rfl, t0, rfl, hz⟩
  · have h1 := nat_not_lt hlt
    rw [List.drop_eq_nil_of_le (by omega)] at hz
    have hz' : twB [] l = false := hz.symm
    rw [hz'] at h
    clear hz hz'
    repeat' (first | simp (maxSteps := 2000000) only [vcCore, vcPlain, yieldT, Int.reduceEq, Int.reduceLT, Int.reduceLE, Int.reduceNe, ↓reduceIte, Nat.reduceEqDiff, Nat.reduceAdd, Nat.reduceLeDiff, Nat.reduceBEq, Value.cells, reduceCtorEq, tyAllRW08f, then_normal, Int.reduceBEq, Int.reduceBNe, Nat.reduceMul, Nat.reduceDiv, Int.reduceToNat, Int.reduceNeg, Int.reduceAdd, Int.reduceSub, Int.reduceMul, Nat.reduceSub, Nat.reduceLT, implies_true, imp_self, cvCore, *] | ((with_reducible refine CodeA.id ?_); (first | ((with_reducible refine CodeA.sz 8 ?_ ?_); (focus rfl); refine draw_any [0, 1, 2, 3, 4, 5, 6, 7] 100 [] mixed (by kernel_rfl) (by kernel_rfl) ?_))) | ((with_reducible refine And.intro ?_ ?_); (focus omega)) | with_reducible refine cK_both _ _ _ _ _ _ (fun hc => ?_) (fun hc => ?_) | ((with_reducible refine gO_both _ _ (fun hc => ?_) (fun hc => ?_)) <;> (try simp only [Bool.not_true, Bool.not_false] at hc)) | ((with_reducible refine gH_both _ _ (fun hc => ?_) (fun hc => ?_)) <;> (try simp only [Bool.not_true, Bool.not_false] at hc)) | with_reducible refine pickK_both _ (fun hc => ?_) (fun hc => ?_))
end
end Go.Proofs.Ytcddhbhdpleppaa.R
