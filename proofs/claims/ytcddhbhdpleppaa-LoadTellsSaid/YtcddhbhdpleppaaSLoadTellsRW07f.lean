/- Layer 31 (load): the reference, and one. No conditions. -/
import Derived.Test.YtcddhbhdpleppaaRZ
import Derived.Test.YtcddhbhdpleppaaSLoadTellsRW31e
import Derived.Test.YtcddhbhdpleppaaSLoadTellsRW31f
import Derived.Test.YtcddhbhdpleppaaSLoadTellsRW08e
import Derived.Test.YtcddhbhdpleppaaREq
import Derived.Test.YtcddhbhdpleppaaSLoadTellsRW08
set_option linter.unusedVariables false
set_option linter.unusedSimpArgs false
namespace Go.Proofs.Ytcddhbhdpleppaa.R
open Go Go.RowKit Go.Proofs.Ytcddhbhdpleppaa
set_option maxRecDepth 100000
set_option maxHeartbeats 8000000
theorem tyAllRW31g : type_of% (And.intro (And.intro (And.intro ty_1 (And.intro ty_3 ty_4)) (And.intro ty_38 (And.intro ty_47 ty_48))) (And.intro (And.intro ty_49 (And.intro ty_50 ty_55)) (And.intro (And.intro ty_56 ty_82) (And.intro ty_87 ty_154)))) := (And.intro (And.intro (And.intro ty_1 (And.intro ty_3 ty_4)) (And.intro ty_38 (And.intro ty_47 ty_48))) (And.intro (And.intro ty_49 (And.intro ty_50 ty_55)) (And.intro (And.intro ty_56 ty_82) (And.intro ty_87 ty_154))))
section
variable {W0 : World}
theorem row_at {m : Mem} {A : Option Addr} {c : Nat} {l : List WinV} (f : RS W0 m (.slice A l.length c) 6 l.length (l.flatMap WinV.cs)) {i : Nat} {w : WinV} (hw : l[i]? = some w) :
    ∃ a, A = some a ∧ cellsA W0 m (a.add (i * 6)) 6 = some #[.int .i64 w.kind, .int .i64 w.bits, .int .i64 w.words, .int .i64 w.addr, .slice w.fr.A w.fr.l.length w.fr.c, .slice w.to.A w.to.l.length w.to.c] ∧
      cellA W0 m ((a.add (i * 6)).add 0) = some (.int .i64 w.kind) ∧ cellA W0 m ((a.add (i * 6)).add 1) = some (.int .i64 w.bits) ∧ cellA W0 m ((a.add (i * 6)).add 2) = some (.int .i64 w.words) ∧ cellA W0 m ((a.add (i * 6)).add 3) = some (.int .i64 w.addr) ∧
      cellA W0 m ((a.add (i * 6)).add 4) = some (.slice w.fr.A w.fr.l.length w.fr.c) ∧ cellA W0 m ((a.add (i * 6)).add 5) = some (.slice w.to.A w.to.l.length w.to.c) := by
  obtain ⟨a, h1, h2, h3⟩ := f.row (f := WinV.cs) (k := 6) (fun _ => rfl) hw (by omega)
  exact ⟨a, h1, h2, h3 0 _ rfl, h3 1 _ rfl, h3 2 _ rfl, h3 3 _ rfl, h3 4 _ rfl, h3 5 _ rfl⟩
theorem ref31_Words {m : Mem} {A : Option Addr} {c : Nat} {l : List WinV} (f : RS W0 m (.slice A l.length c) 6 l.length (l.flatMap WinV.cs)) (hl : l.length ≤ 1000) (hb : ∀ w ∈ l, w.kind = 0 → 0 ≤ wordF w ∧ wordF w ≤ 1000) :
    Ret Try.prog W0 70 #[.slice A l.length c] m (.int .i64 (sumK wordF l)) := by
  have f' : Hid _ := f
  replace hb : Hid _ := hb
  clear f
  refine ⟨fun K h => ?_⟩
  refine en_70 (l := [.slice A l.length c]) (by simp [Try.ntmps70]) ?_
  have X : Ext m m := Ext.refl m
  simp (maxSteps := 2000000) only [Try.f70, Option.getD_some, vcCore, vcPlain, yieldT, Int.reduceEq, Int.reduceLT, Int.reduceLE, Int.reduceNe, ↓reduceIte, Nat.reduceEqDiff, Nat.reduceAdd, Nat.reduceLeDiff, Nat.reduceBEq, Value.cells, reduceCtorEq, tyAllRW31g, then_normal, Int.reduceBEq, Int.reduceBNe, Nat.reduceMul, Nat.reduceDiv, Int.reduceToNat, Int.reduceNeg, Int.reduceAdd, Int.reduceSub, Int.reduceMul, Nat.reduceSub, Nat.reduceLT, implies_true, imp_self, cvCore]
  repeat' (first | simp (maxSteps := 2000000) only [vcCore, vcPlain, yieldT, Int.reduceEq, Int.reduceLT, Int.reduceLE, Int.reduceNe, ↓reduceIte, Nat.reduceEqDiff, Nat.reduceAdd, Nat.reduceLeDiff, Nat.reduceBEq, Value.cells, reduceCtorEq, tyAllRW31g, then_normal, Int.reduceBEq, Int.reduceBNe, Nat.reduceMul, Nat.reduceDiv, Int.reduceToNat, Int.reduceNeg, Int.reduceAdd, Int.reduceSub, Int.reduceMul, Nat.reduceSub, Nat.reduceLT, implies_true, imp_self, cvCore, *] | ((with_reducible refine CodeA.id ?_); (first | fail)) | ((with_reducible refine And.intro ?_ ?_); (focus omega)) | with_reducible refine cK_both _ _ _ _ _ _ (fun hc => ?_) (fun hc => ?_) | ((with_reducible refine gO_both _ _ (fun hc => ?_) (fun hc => ?_)) <;> (try simp only [Bool.not_true, Bool.not_false] at hc)) | ((with_reducible refine gH_both _ _ (fun hc => ?_) (fun hc => ?_)) <;> (try simp only [Bool.not_true, Bool.not_false] at hc)) | with_reducible refine pickK_both _ (fun hc => ?_) (fun hc => ?_))
  refine loop_rule (fun d t m' => Ext m m' ∧ ∃ i : Nat, i ≤ l.length ∧ d = l.length - i ∧ t 0 = .slice A l.length c ∧ t 3 = .int .i64 (sumK wordF (l.take i)) ∧ t 4 = .int .i64 i) l.length (by kernel_rfl) ⟨X, 0, by omega, by omega, rfl, rfl, rfl⟩ ?_
  clear X
  rintro d t m' ⟨X, i, hi, rfl, t0, t3, t4⟩
  by_cases hlt : i < l.length
  · have h1 := nat_lt hlt
    have h2 := wrap_succ (i := i) (by omega)
    have h3 : (0 : Int) ≤ (i : Int) := by omega
    obtain ⟨w, hw⟩ := get_some hlt
    obtain ⟨a, rfl, _, q0, _, q2, _, _, _⟩ := row_at ((show RS W0 m _ _ _ _ from f').ext X) hw
    have hsn := sumK_snoc wordF (l.take i) w
    rw [← take_step hw] at hsn
    have hle := sumK_le (F := wordF) (l.take i) (fun x hx => (show ∀ w ∈ l, w.kind = 0 → 0 ≤ wordF w ∧ wordF w ≤ 1000 from hb) x (List.mem_of_mem_take hx))
    rw [List.length_take] at hle
    have hbw := (show ∀ w ∈ l, w.kind = 0 → 0 ≤ wordF w ∧ wordF w ≤ 1000 from hb) w (List.mem_of_getElem? hw)
    replace hw : Hid _ := hw
    by_cases hk : w.kind = 0
    · have hkb := beq_of_eq hk
      have hbw' := hbw hk
      rw [if_pos hk] at hsn
      have hw8 : IntKind.i64.wrap (8 * w.words) = wordF w := by unfold wordF at *; exact w64 (by omega) (by omega)
      have hwr : IntKind.i64.wrap (sumK wordF (l.take i) + wordF w) = sumK wordF (l.take (i + 1)) := by rw [hsn, w64 (by omega) (by omega)]
      replace hsn : Hid _ := hsn
      clear hk hbw hle hbw'
      repeat' (first | simp (maxSteps := 2000000) only [vcCore, vcPlain, yieldT, Int.reduceEq, Int.reduceLT, Int.reduceLE, Int.reduceNe, ↓reduceIte, Nat.reduceEqDiff, Nat.reduceAdd, Nat.reduceLeDiff, Nat.reduceBEq, Value.cells, reduceCtorEq, tyAllRW31g, then_normal, Int.reduceBEq, Int.reduceBNe, Nat.reduceMul, Nat.reduceDiv, Int.reduceToNat, Int.reduceNeg, Int.reduceAdd, Int.reduceSub, Int.reduceMul, Nat.reduceSub, Nat.reduceLT, implies_true, imp_self, cvCore, *, Nat.mul_one] | ((with_reducible refine CodeA.id ?_); (first | fail)) | ((with_reducible refine And.intro ?_ ?_); (focus omega)) | with_reducible refine cK_both _ _ _ _ _ _ (fun hc => ?_) (fun hc => ?_) | ((with_reducible refine gO_both _ _ (fun hc => ?_) (fun hc => ?_)) <;> (try simp only [Bool.not_true, Bool.not_false] at hc)) | ((with_reducible refine gH_both _ _ (fun hc => ?_) (fun hc => ?_)) <;> (try simp only [Bool.not_true, Bool.not_false] at hc)) | with_reducible refine pickK_both _ (fun hc => ?_) (fun hc => ?_))
      exact ⟨l.length - (i + 1), by omega, X, i + 1, by omega, rfl, t0, rfl, rfl⟩
    · have hkb := beq_no hk
      rw [if_neg hk, Int.add_zero] at hsn
      replace hsn : Hid _ := hsn
      clear hk hbw hle
      repeat' (first | simp (maxSteps := 2000000) only [vcCore, vcPlain, yieldT, Int.reduceEq, Int.reduceLT, Int.reduceLE, Int.reduceNe, ↓reduceIte, Nat.reduceEqDiff, Nat.reduceAdd, Nat.reduceLeDiff, Nat.reduceBEq, Value.cells, reduceCtorEq, tyAllRW31g, then_normal, Int.reduceBEq, Int.reduceBNe, Nat.reduceMul, Nat.reduceDiv, Int.reduceToNat, Int.reduceNeg, Int.reduceAdd, Int.reduceSub, Int.reduceMul, Nat.reduceSub, Nat.reduceLT, implies_true, imp_self, cvCore, *, Nat.mul_one] | ((with_reducible refine CodeA.id ?_); (first | fail)) | ((with_reducible refine And.intro ?_ ?_); (focus omega)) | with_reducible refine cK_both _ _ _ _ _ _ (fun hc => ?_) (fun hc => ?_) | ((with_reducible refine gO_both _ _ (fun hc => ?_) (fun hc => ?_)) <;> (try simp only [Bool.not_true, Bool.not_false] at hc)) | ((with_reducible refine gH_both _ _ (fun hc => ?_) (fun hc => ?_)) <;> (try simp only [Bool.not_true, Bool.not_false] at hc)) | with_reducible refine pickK_both _ (fun hc => ?_) (fun hc => ?_))
      exact ⟨l.length - (i + 1), by omega, X, i + 1, by omega, rfl, t0, by rw [show sumK wordF (l.take (i + 1)) = _ from hsn]; exact t3, rfl⟩
  · have h1 := nat_not_lt hlt
    rw [List.take_of_length_le (by omega)] at t3
    repeat' (first | simp (maxSteps := 2000000) only [vcCore, vcPlain, yieldT, Int.reduceEq, Int.reduceLT, Int.reduceLE, Int.reduceNe, ↓reduceIte, Nat.reduceEqDiff, Nat.reduceAdd, Nat.reduceLeDiff, Nat.reduceBEq, Value.cells, reduceCtorEq, tyAllRW31g, then_normal, Int.reduceBEq, Int.reduceBNe, Nat.reduceMul, Nat.reduceDiv, Int.reduceToNat, Int.reduceNeg, Int.reduceAdd, Int.reduceSub, Int.reduceMul, Nat.reduceSub, Nat.reduceLT, implies_true, imp_self, cvCore, *] | ((with_reducible refine CodeA.id ?_); (first | fail)) | ((with_reducible refine And.intro ?_ ?_); (focus omega)) | with_reducible refine cK_both _ _ _ _ _ _ (fun hc => ?_) (fun hc => ?_) | ((with_reducible refine gO_both _ _ (fun hc => ?_) (fun hc => ?_)) <;> (try simp only [Bool.not_true, Bool.not_false] at hc)) | ((with_reducible refine gH_both _ _ (fun hc => ?_) (fun hc => ?_)) <;> (try simp only [Bool.not_true, Bool.not_false] at hc)) | with_reducible refine pickK_both _ (fun hc => ?_) (fun hc => ?_))
    all_goals exact h _ X
theorem ref31_Writes {m : Mem} {A : Option Addr} {c : Nat} {l : List WinV} (f : RS W0 m (.slice A l.length c) 6 l.length (l.flatMap WinV.cs)) (hl : l.length ≤ 1000) (hb : ∀ w ∈ l, w.kind = 0 → 0 ≤ w.addr ∧ w.addr + w.words ≤ 64 ∧ 0 ≤ w.words) (q : Nat) :
    Ret Try.prog W0 68 #[.slice A l.length c, .int .i64 (q : Int)] m (.int .i64 (cntW l q)) := by
  have f' : Hid _ := f
  replace hb : Hid _ := hb
  clear f
  refine ⟨fun K h => ?_⟩
  refine en_68 (l := [.slice A l.length c, .int .i64 (q : Int)]) (by simp [Try.ntmps68]) ?_
  have X : Ext m m := Ext.refl m
  simp (maxSteps := 2000000) only [Try.f68, Option.getD_some, vcCore, vcPlain, yieldT, Int.reduceEq, Int.reduceLT, Int.reduceLE, Int.reduceNe, ↓reduceIte, Nat.reduceEqDiff, Nat.reduceAdd, Nat.reduceLeDiff, Nat.reduceBEq, Value.cells, reduceCtorEq, tyAllRW31g, then_normal, Int.reduceBEq, Int.reduceBNe, Nat.reduceMul, Nat.reduceDiv, Int.reduceToNat, Int.reduceNeg, Int.reduceAdd, Int.reduceSub, Int.reduceMul, Nat.reduceSub, Nat.reduceLT, implies_true, imp_self, cvCore]
  repeat' (first | simp (maxSteps := 2000000) only [vcCore, vcPlain, yieldT, Int.reduceEq, Int.reduceLT, Int.reduceLE, Int.reduceNe, ↓reduceIte, Nat.reduceEqDiff, Nat.reduceAdd, Nat.reduceLeDiff, Nat.reduceBEq, Value.cells, reduceCtorEq, tyAllRW31g, then_normal, Int.reduceBEq, Int.reduceBNe, Nat.reduceMul, Nat.reduceDiv, Int.reduceToNat, Int.reduceNeg, Int.reduceAdd, Int.reduceSub, Int.reduceMul, Nat.reduceSub, Nat.reduceLT, implies_true, imp_self, cvCore, *] | ((with_reducible refine CodeA.id ?_); (first | ((with_reducible refine CodeA.sz 30 ?_ ?_); (focus rfl); refine draw_any [0, 1, 2, 3, 4, 5, 6, 7, 8, 9, 10, 11, 12, 13, 14, 15, 16, 17, 18, 19, 20, 21, 22, 23, 24, 25, 26, 27, 28, 29] 100 [] mixed (by kernel_rfl) (by kernel_rfl) ?_))) | ((with_reducible refine And.intro ?_ ?_); (focus omega)) | with_reducible refine cK_both _ _ _ _ _ _ (fun hc => ?_) (fun hc => ?_) | ((with_reducible refine gO_both _ _ (fun hc => ?_) (fun hc => ?_)) <;> (try simp only [Bool.not_true, Bool.not_false] at hc)) | ((with_reducible refine gH_both _ _ (fun hc => ?_) (fun hc => ?_)) <;> (try simp only [Bool.not_true, Bool.not_false] at hc)) | with_reducible refine pickK_both _ (fun hc => ?_) (fun hc => ?_))
  refine loop_rule (fun d t m' => Ext m m' ∧ ∃ i : Nat, i ≤ l.length ∧ d = l.length - i ∧ t 0 = .slice A l.length c ∧ t 1 = .int .i64 q ∧ t 5 = .int .i64 (cntW (l.take i) q) ∧ t 6 = .int .i64 i) l.length (by kernel_rfl) ⟨X, 0, by omega, by omega, rfl, rfl, rfl, rfl⟩ ?_
  clear X
  rintro d t m' ⟨X, i, hi, rfl, t0, t1, t5, t6⟩
  by_cases hlt : i < l.length
  · have h1 := nat_lt hlt
    have h2 := wrap_succ (i := i) (by omega)
    have h3 : (0 : Int) ≤ (i : Int) := by omega
    obtain ⟨w, hw⟩ := get_some hlt
    obtain ⟨a, rfl, _, q0, _, q2, q3, _, _⟩ := row_at ((show RS W0 m _ _ _ _ from f').ext X) hw
    have hsn := cntW_snoc (l.take i) w q
    rw [← take_step hw] at hsn
    have hle := cntW_le (l.take i) q
    rw [List.length_take] at hle
    have hbw := (show ∀ w ∈ l, w.kind = 0 → 0 ≤ w.addr ∧ w.addr + w.words ≤ 64 ∧ 0 ≤ w.words from hb) w (List.mem_of_getElem? hw)
    replace hw : Hid _ := hw
    have hwr : IntKind.i64.wrap (cntW (l.take i) q + 1) = cntW (l.take i) q + 1 := w64 (by omega) (by omega)
    by_cases hk : w.kind = 0
    · have hkb := beq_of_eq hk
      obtain ⟨hb1, hb2, hb3⟩ := hbw hk
      have hin : inW w q = (decide (w.addr ≤ (q : Int)) && decide ((q : Int) < w.addr + w.words)) := rfl
      rw [hkb, hin] at hsn
      clear hin hk hbw hle
      by_cases ha : w.addr ≤ (q : Int)
      · by_cases hb' : (q : Int) < w.addr + w.words
        · have hww : IntKind.i64.wrap (w.addr + w.words) = w.addr + w.words := w64 (by omega) (by omega)
          rw [decide_eq_true ha, decide_eq_true hb'] at hsn
          replace hsn : Hid _ := hsn
          repeat' (first | simp (maxSteps := 2000000) only [vcCore, vcPlain, yieldT, Int.reduceEq, Int.reduceLT, Int.reduceLE, Int.reduceNe, ↓reduceIte, Nat.reduceEqDiff, Nat.reduceAdd, Nat.reduceLeDiff, Nat.reduceBEq, Value.cells, reduceCtorEq, tyAllRW31g, then_normal, Int.reduceBEq, Int.reduceBNe, Nat.reduceMul, Nat.reduceDiv, Int.reduceToNat, Int.reduceNeg, Int.reduceAdd, Int.reduceSub, Int.reduceMul, Nat.reduceSub, Nat.reduceLT, implies_true, imp_self, cvCore, *, Nat.mul_one] | ((with_reducible refine CodeA.id ?_); (first | ((with_reducible refine CodeA.sz 30 ?_ ?_); (focus rfl); refine draw_any [0, 1, 2, 3, 4, 5, 6, 7, 8, 9, 10, 11, 12, 13, 14, 15, 16, 17, 18, 19, 20, 21, 22, 23, 24, 25, 26, 27, 28, 29] 100 [] mixed (by kernel_rfl) (by kernel_rfl) ?_))) | ((with_reducible refine And.intro ?_ ?_); (focus omega)) | with_reducible refine cK_both _ _ _ _ _ _ (fun hc => ?_) (fun hc => ?_) | ((with_reducible refine gO_both _ _ (fun hc => ?_) (fun hc => ?_)) <;> (try simp only [Bool.not_true, Bool.not_false] at hc)) | ((with_reducible refine gH_both _ _ (fun hc => ?_) (fun hc => ?_)) <;> (try simp only [Bool.not_true, Bool.not_false] at hc)) | with_reducible refine pickK_both _ (fun hc => ?_) (fun hc => ?_))
          exact ⟨l.length - (i + 1), by omega, X, i + 1, by omega, rfl, t0, t1, by rw [show cntW (l.take (i + 1)) q = _ from hsn]; rfl, rfl⟩
        · have hww : IntKind.i64.wrap (w.addr + w.words) = w.addr + w.words := w64 (by omega) (by omega)
          rw [decide_eq_true ha, decide_eq_false hb', Bool.and_false, Bool.and_false, if_neg (by simp), Int.add_zero] at hsn
          replace hsn : Hid _ := hsn
          repeat' (first | simp (maxSteps := 2000000) only [vcCore, vcPlain, yieldT, Int.reduceEq, Int.reduceLT, Int.reduceLE, Int.reduceNe, ↓reduceIte, Nat.reduceEqDiff, Nat.reduceAdd, Nat.reduceLeDiff, Nat.reduceBEq, Value.cells, reduceCtorEq, tyAllRW31g, then_normal, Int.reduceBEq, Int.reduceBNe, Nat.reduceMul, Nat.reduceDiv, Int.reduceToNat, Int.reduceNeg, Int.reduceAdd, Int.reduceSub, Int.reduceMul, Nat.reduceSub, Nat.reduceLT, implies_true, imp_self, cvCore, *, Nat.mul_one] | ((with_reducible refine CodeA.id ?_); (first | ((with_reducible refine CodeA.sz 30 ?_ ?_); (focus rfl); refine draw_any [0, 1, 2, 3, 4, 5, 6, 7, 8, 9, 10, 11, 12, 13, 14, 15, 16, 17, 18, 19, 20, 21, 22, 23, 24, 25, 26, 27, 28, 29] 100 [] mixed (by kernel_rfl) (by kernel_rfl) ?_))) | ((with_reducible refine And.intro ?_ ?_); (focus omega)) | with_reducible refine cK_both _ _ _ _ _ _ (fun hc => ?_) (fun hc => ?_) | ((with_reducible refine gO_both _ _ (fun hc => ?_) (fun hc => ?_)) <;> (try simp only [Bool.not_true, Bool.not_false] at hc)) | ((with_reducible refine gH_both _ _ (fun hc => ?_) (fun hc => ?_)) <;> (try simp only [Bool.not_true, Bool.not_false] at hc)) | with_reducible refine pickK_both _ (fun hc => ?_) (fun hc => ?_))
          exact ⟨l.length - (i + 1), by omega, X, i + 1, by omega, rfl, t0, t1, by rw [show cntW (l.take (i + 1)) q = _ from hsn]; exact t5, rfl⟩
      · rw [decide_eq_false ha, Bool.false_and, Bool.and_false, if_neg (by simp), Int.add_zero] at hsn
        replace hsn : Hid _ := hsn
        repeat' (first | simp (maxSteps := 2000000) only [vcCore, vcPlain, yieldT, Int.reduceEq, Int.reduceLT, Int.reduceLE, Int.reduceNe, ↓reduceIte, Nat.reduceEqDiff, Nat.reduceAdd, Nat.reduceLeDiff, Nat.reduceBEq, Value.cells, reduceCtorEq, tyAllRW31g, then_normal, Int.reduceBEq, Int.reduceBNe, Nat.reduceMul, Nat.reduceDiv, Int.reduceToNat, Int.reduceNeg, Int.reduceAdd, Int.reduceSub, Int.reduceMul, Nat.reduceSub, Nat.reduceLT, implies_true, imp_self, cvCore, *, Nat.mul_one] | ((with_reducible refine CodeA.id ?_); (first | ((with_reducible refine CodeA.sz 30 ?_ ?_); (focus rfl); refine draw_any [0, 1, 2, 3, 4, 5, 6, 7, 8, 9, 10, 11, 12, 13, 14, 15, 16, 17, 18, 19, 20, 21, 22, 23, 24, 25, 26, 27, 28, 29] 100 [] mixed (by kernel_rfl) (by kernel_rfl) ?_))) | ((with_reducible refine And.intro ?_ ?_); (focus omega)) | with_reducible refine cK_both _ _ _ _ _ _ (fun hc => ?_) (fun hc => ?_) | ((with_reducible refine gO_both _ _ (fun hc => ?_) (fun hc => ?_)) <;> (try simp only [Bool.not_true, Bool.not_false] at hc)) | ((with_reducible refine gH_both _ _ (fun hc => ?_) (fun hc => ?_)) <;> (try simp only [Bool.not_true, Bool.not_false] at hc)) | with_reducible refine pickK_both _ (fun hc => ?_) (fun hc => ?_))
        exact ⟨l.length - (i + 1), by omega, X, i + 1, by omega, rfl, t0, t1, by rw [show cntW (l.take (i + 1)) q = _ from hsn]; exact t5, rfl⟩
    · have hkb := beq_no hk
      rw [hkb, Bool.false_and, if_neg (by simp), Int.add_zero] at hsn
      replace hsn : Hid _ := hsn
      clear hk hbw hle
      repeat' (first | simp (maxSteps := 2000000) only [vcCore, vcPlain, yieldT, Int.reduceEq, Int.reduceLT, Int.reduceLE, Int.reduceNe, ↓reduceIte, Nat.reduceEqDiff, Nat.reduceAdd, Nat.reduceLeDiff, Nat.reduceBEq, Value.cells, reduceCtorEq, tyAllRW31g, then_normal, Int.reduceBEq, Int.reduceBNe, Nat.reduceMul, Nat.reduceDiv, Int.reduceToNat, Int.reduceNeg, Int.reduceAdd, Int.reduceSub, Int.reduceMul, Nat.reduceSub, Nat.reduceLT, implies_true, imp_self, cvCore, *, Nat.mul_one] | ((with_reducible refine CodeA.id ?_); (first | ((with_reducible refine CodeA.sz 30 ?_ ?_); (focus rfl); refine draw_any [0, 1, 2, 3, 4, 5, 6, 7, 8, 9, 10, 11, 12, 13, 14, 15, 16, 17, 18, 19, 20, 21, 22, 23, 24, 25, 26, 27, 28, 29] 100 [] mixed (by kernel_rfl) (by kernel_rfl) ?_))) | ((with_reducible refine And.intro ?_ ?_); (focus omega)) | with_reducible refine cK_both _ _ _ _ _ _ (fun hc => ?_) (fun hc => ?_) | ((with_reducible refine gO_both _ _ (fun hc => ?_) (fun hc => ?_)) <;> (try simp only [Bool.not_true, Bool.not_false] at hc)) | ((with_reducible refine gH_both _ _ (fun hc => ?_) (fun hc => ?_)) <;> (try simp only [Bool.not_true, Bool.not_false] at hc)) | with_reducible refine pickK_both _ (fun hc => ?_) (fun hc => ?_))
      exact ⟨l.length - (i + 1), by omega, X, i + 1, by omega, rfl, t0, t1, by rw [show cntW (l.take (i + 1)) q = _ from hsn]; exact t5, rfl⟩
  · have h1 := nat_not_lt hlt
    rw [List.take_of_length_le (by omega)] at t5
    repeat' (first | simp (maxSteps := 2000000) only [vcCore, vcPlain, yieldT, Int.reduceEq, Int.reduceLT, Int.reduceLE, Int.reduceNe, ↓reduceIte, Nat.reduceEqDiff, Nat.reduceAdd, Nat.reduceLeDiff, Nat.reduceBEq, Value.cells, reduceCtorEq, tyAllRW31g, then_normal, Int.reduceBEq, Int.reduceBNe, Nat.reduceMul, Nat.reduceDiv, Int.reduceToNat, Int.reduceNeg, Int.reduceAdd, Int.reduceSub, Int.reduceMul, Nat.reduceSub, Nat.reduceLT, implies_true, imp_self, cvCore, *] | ((with_reducible refine CodeA.id ?_); (first | ((with_reducible refine CodeA.sz 30 ?_ ?_); (focus rfl); refine draw_any [0, 1, 2, 3, 4, 5, 6, 7, 8, 9, 10, 11, 12, 13, 14, 15, 16, 17, 18, 19, 20, 21, 22, 23, 24, 25, 26, 27, 28, 29] 100 [] mixed (by kernel_rfl) (by kernel_rfl) ?_))) | ((with_reducible refine And.intro ?_ ?_); (focus omega)) | with_reducible refine cK_both _ _ _ _ _ _ (fun hc => ?_) (fun hc => ?_) | ((with_reducible refine gO_both _ _ (fun hc => ?_) (fun hc => ?_)) <;> (try simp only [Bool.not_true, Bool.not_false] at hc)) | ((with_reducible refine gH_both _ _ (fun hc => ?_) (fun hc => ?_)) <;> (try simp only [Bool.not_true, Bool.not_false] at hc)) | with_reducible refine pickK_both _ (fun hc => ?_) (fun hc => ?_))
    all_goals exact h _ X
theorem load_Clashes_no {m : Mem} {S : SchV} {v : Int} (f : ∀ M, SchR W0 M S) (ho : okL S v = false) : Ret Try.prog W0 64 #[S.v, .int .i64 v] m (.slice none 0 0) := by
  have rW : ∀ M, Ret Try.prog W0 128 #[.agg #[.int .i64 S.mods, .slice S.f0.A S.f0.l.length S.f0.c, .slice S.f1.A S.f1.l.length S.f1.c], .int .i64 v] M (.agg (i64 (tabI fun _ => 0)).toArray) := fun M => (load_writes f).eq (by unfold wrF; rw [ho]; rfl)
  have hg : ∀ q : Nat, q < 64 → (i64 (tabI fun _ => 0))[q]? = some (.int .i64 0) := fun q hq => by rw [i64_get, tabI_get _ hq]; rfl
  clear f ho
  generalize tabI (fun _ => 0) = T at *
  refine ⟨fun K h => ?_⟩
  refine en_64 (l := [S.v, .int .i64 v]) (by simp [Try.ntmps64]) ?_
  have X : Ext m m := Ext.refl m
  simp (maxSteps := 2000000) only [Try.f64, Option.getD_some, vcCore, vcPlain, yieldT, Int.reduceEq, Int.reduceLT, Int.reduceLE, Int.reduceNe, ↓reduceIte, Nat.reduceEqDiff, Nat.reduceAdd, Nat.reduceLeDiff, Nat.reduceBEq, Value.cells, reduceCtorEq, tyAllRW31g, then_normal, Int.reduceBEq, Int.reduceBNe, Nat.reduceMul, Nat.reduceDiv, Int.reduceToNat, Int.reduceNeg, Int.reduceAdd, Int.reduceSub, Int.reduceMul, Nat.reduceSub, Nat.reduceLT, implies_true, imp_self, cvCore, SchV.v]
  repeat' (first | simp (maxSteps := 2000000) only [vcCore, vcPlain, yieldT, Int.reduceEq, Int.reduceLT, Int.reduceLE, Int.reduceNe, ↓reduceIte, Nat.reduceEqDiff, Nat.reduceAdd, Nat.reduceLeDiff, Nat.reduceBEq, Value.cells, reduceCtorEq, tyAllRW31g, then_normal, Int.reduceBEq, Int.reduceBNe, Nat.reduceMul, Nat.reduceDiv, Int.reduceToNat, Int.reduceNeg, Int.reduceAdd, Int.reduceSub, Int.reduceMul, Nat.reduceSub, Nat.reduceLT, implies_true, imp_self, cvCore, *] | ((first | (with_reducible refine Ret.use (rW _) fun m1 e1 => ?_)); (try replace X := X.trans e1); (try replace P3 := P3.ext e1); (try (replace o1 := e1 _ _ o1; replace c1 := blk_facts hb1 o1))) | (with_reducible refine Ret.q (fun m1 e1 => rW _) ?_) | (with_reducible refine Ret.q0 (fun m1 e1 => rW _) ?_) | ((first | ((with_reducible refine newK_init ?_ ?_ ?_ ?_); (focus (intro b; simp only [evCore, reduceCtorEq, Nat.reduceEqDiff, Nat.reduceAdd, ↓reduceIte, Value.cells, tyAllRW31g]; done)); (focus (simp only [evCore, reduceCtorEq, Nat.reduceEqDiff, Nat.reduceAdd, ↓reduceIte, Value.cells, tyAllRW31g]; done)); (focus (intro b; simp only [evCore, reduceCtorEq, Nat.reduceEqDiff, Nat.reduceAdd, ↓reduceIte, Value.cells, tyAllRW31g]; done))) | ((with_reducible refine newK.id ?_); refine newK_intro ?_) | ((with_reducible refine RunA.id ?_); (first | with_reducible refine rbuild1 sl_38 ze_3 ?_ ?_ ?_ | with_reducible refine rbuild1 sl_47 ze_56 ?_ ?_ ?_ | with_reducible refine rbuild1 sl_87 ze_82 ?_ ?_ ?_); (focus (simp only [Value.cells, List.size_toArray, List.length_cons, List.length_nil]; done)); (focus decide)) | ((first | with_reducible refine bG1 sl_38 ze_3 ?_ ?_ ?_ | with_reducible refine bG1 sl_47 ze_56 ?_ ?_ ?_ | with_reducible refine bG1 sl_87 ze_82 ?_ ?_ ?_); (focus (simp only [Value.cells, List.size_toArray, List.length_cons, List.length_nil]; done)); (focus decide)) | ((with_reducible refine RunA.id ?_); (first | with_reducible refine rbuild2 sl_38 ze_3 rfl rfl ?_ | with_reducible refine rbuild2 sl_47 ze_56 rfl rfl ?_ | with_reducible refine rbuild2 sl_87 ze_82 rfl rfl ?_)) | (first | with_reducible refine bG2 sl_38 ze_3 rfl rfl ?_ | with_reducible refine bG2 sl_47 ze_56 rfl rfl ?_ | with_reducible refine bG2 sl_87 ze_82 rfl rfl ?_)); (first | (intro b1 m1 hb1 n1 e1 o1; replace n1 := none_of X n1; (try simp only [evCore, reduceCtorEq, Nat.reduceEqDiff, Nat.reduceAdd, ↓reduceIte, Value.cells, tyAllRW31g] at o1))); (try replace X := X.trans e1); (try replace P3 := P3.ext e1); (try (replace o1 := e1 _ _ o1; replace c1 := blk_facts hb1 o1)); (try have c1 := blk_facts hb1 o1)) | ((with_reducible refine CodeA.id ?_); (first | fail)) | ((with_reducible refine And.intro ?_ ?_); (focus omega)) | with_reducible refine cK_both _ _ _ _ _ _ (fun hc => ?_) (fun hc => ?_) | ((with_reducible refine gO_both _ _ (fun hc => ?_) (fun hc => ?_)) <;> (try simp only [Bool.not_true, Bool.not_false] at hc)) | ((with_reducible refine gH_both _ _ (fun hc => ?_) (fun hc => ?_)) <;> (try simp only [Bool.not_true, Bool.not_false] at hc)) | with_reducible refine pickK_both _ (fun hc => ?_) (fun hc => ?_))
  refine loop_rule (fun d t m' => Ext m m' ∧ ∃ q : Nat, q ≤ 64 ∧ d = 64 - q ∧ t 5 = .slice none 0 0 ∧ t 10 = .agg (i64 T).toArray ∧ t 11 = .int .i64 q) 64 (by kernel_rfl) ⟨X, 0, by omega, by omega, rfl, rfl, rfl⟩ ?_
  clear X o1 c1 n1
  replace hg : Hid _ := hg
  rintro d t m' ⟨X, q, hq, rfl, t5, t10, t11⟩
  by_cases hlt : q < 64
  · have h1 : (q : Int) < 64 := by omega
    have h2 := wrap_succ (i := q) (by omega)
    have h3 : (0 : Int) ≤ (q : Int) := by omega
    have hy := (show ∀ q : Nat, q < 64 → (i64 T)[q]? = some (.int .i64 0) from hg) q hlt
    repeat' (first | simp (maxSteps := 2000000) only [vcCore, vcPlain, yieldT, Int.reduceEq, Int.reduceLT, Int.reduceLE, Int.reduceNe, ↓reduceIte, Nat.reduceEqDiff, Nat.reduceAdd, Nat.reduceLeDiff, Nat.reduceBEq, Value.cells, reduceCtorEq, tyAllRW31g, then_normal, Int.reduceBEq, Int.reduceBNe, Nat.reduceMul, Nat.reduceDiv, Int.reduceToNat, Int.reduceNeg, Int.reduceAdd, Int.reduceSub, Int.reduceMul, Nat.reduceSub, Nat.reduceLT, implies_true, imp_self, cvCore, *] | ((with_reducible refine CodeA.id ?_); (first | fail)) | ((with_reducible refine And.intro ?_ ?_); (focus omega)) | with_reducible refine cK_both _ _ _ _ _ _ (fun hc => ?_) (fun hc => ?_) | ((with_reducible refine gO_both _ _ (fun hc => ?_) (fun hc => ?_)) <;> (try simp only [Bool.not_true, Bool.not_false] at hc)) | ((with_reducible refine gH_both _ _ (fun hc => ?_) (fun hc => ?_)) <;> (try simp only [Bool.not_true, Bool.not_false] at hc)) | with_reducible refine pickK_both _ (fun hc => ?_) (fun hc => ?_))
    exact ⟨64 - (q + 1), by omega, X, q + 1, by omega, rfl, t5, t10, rfl⟩
  · have h1 : ¬ (q : Int) < 64 := by omega
    repeat' (first | simp (maxSteps := 2000000) only [vcCore, vcPlain, yieldT, Int.reduceEq, Int.reduceLT, Int.reduceLE, Int.reduceNe, ↓reduceIte, Nat.reduceEqDiff, Nat.reduceAdd, Nat.reduceLeDiff, Nat.reduceBEq, Value.cells, reduceCtorEq, tyAllRW31g, then_normal, Int.reduceBEq, Int.reduceBNe, Nat.reduceMul, Nat.reduceDiv, Int.reduceToNat, Int.reduceNeg, Int.reduceAdd, Int.reduceSub, Int.reduceMul, Nat.reduceSub, Nat.reduceLT, implies_true, imp_self, cvCore, *] | ((with_reducible refine CodeA.id ?_); (first | fail)) | ((with_reducible refine And.intro ?_ ?_); (focus omega)) | with_reducible refine cK_both _ _ _ _ _ _ (fun hc => ?_) (fun hc => ?_) | ((with_reducible refine gO_both _ _ (fun hc => ?_) (fun hc => ?_)) <;> (try simp only [Bool.not_true, Bool.not_false] at hc)) | ((with_reducible refine gH_both _ _ (fun hc => ?_) (fun hc => ?_)) <;> (try simp only [Bool.not_true, Bool.not_false] at hc)) | with_reducible refine pickK_both _ (fun hc => ?_) (fun hc => ?_))
    all_goals exact h _ X
end
end Go.Proofs.Ytcddhbhdpleppaa.R
/- The law's own example of the validity layer. No conditions. -/
set_option linter.unusedVariables false
set_option linter.unusedSimpArgs false
namespace Go.Proofs.Ytcddhbhdpleppaa.R
open Go Go.RowKit Go.Proofs.Ytcddhbhdpleppaa
set_option maxRecDepth 100000
set_option maxHeartbeats 8000000
section
variable {W0 : World}
theorem wins_none (m : Mem) : WinsOk W0 m ⟨none, 0, []⟩ := ⟨⟨by simp, none, 0, rfl, .inl (by simp)⟩, fun w hw => by simp at hw, by simp⟩
end
end Go.Proofs.Ytcddhbhdpleppaa.R
/- Layer 31 (load): one. No conditions. -/
set_option linter.unusedVariables false
set_option linter.unusedSimpArgs false
namespace Go.Proofs.Ytcddhbhdpleppaa.R
open Go Go.RowKit Go.Proofs.Ytcddhbhdpleppaa
set_option maxRecDepth 100000
set_option maxHeartbeats 8000000
theorem tyAllRW31h : type_of% (And.intro (And.intro (And.intro ty_3 ty_4) (And.intro ty_38 (And.intro ty_47 ty_48))) (And.intro (And.intro ty_49 (And.intro ty_50 ty_55)) (And.intro ty_56 (And.intro ty_103 ty_104)))) := (And.intro (And.intro (And.intro ty_3 ty_4) (And.intro ty_38 (And.intro ty_47 ty_48))) (And.intro (And.intro ty_49 (And.intro ty_50 ty_55)) (And.intro ty_56 (And.intro ty_103 ty_104))))
section
variable {W0 : World}
theorem schr_2 (M : Mem) : SchR W0 M ⟨2, ⟨none, 0, []⟩, ⟨none, 0, []⟩⟩ := ⟨wins_none M, wins_none M, fun w hw => by simp at hw, fun w hw => by simp at hw⟩
theorem one31 {m : Mem} : Ret Try.prog W0 66 #[] m (.bool true) := by
  have r1 : ∀ M, Ret Try.prog W0 59 #[.agg #[.int .i64 2, .slice none 0 0, .slice none 0 0], .int .i64 0] M (.agg #[.int .i64 0, .int .i64 6, .int .i64 0, .int .i64 10, .int .i64 16]) := fun M =>
    (load_Of_yes (S := ⟨2, ⟨none, 0, []⟩, ⟨none, 0, []⟩⟩) (v := 0) (schr_2 M) (by decide +kernel)).eq (by kernel_rfl)
  have r2 : ∀ M, Ret Try.prog W0 65 #[.agg #[.int .i64 2, .slice none 0 0, .slice none 0 0], .int .i64 1] M (.int .i64 182) := fun M =>
    (load_Idle (S := ⟨2, ⟨none, 0, []⟩, ⟨none, 0, []⟩⟩) (v := 1) (schr_2 M)).eq (by kernel_rfl)
  have r3 : ∀ M, Ret Try.prog W0 60 #[.agg #[.int .i64 1, .int .i64 0, .int .i64 0, .int .i64 0, .int .i64 3]] M (.int .i64 333) := fun M => (load_Share (by omega) (by omega)).eq (by kernel_rfl)
  refine ⟨fun K h => ?_⟩
  refine en_66 (l := []) (by simp [Try.ntmps66]) ?_
  have X : Ext m m := Ext.refl m
  simp (maxSteps := 2000000) only [Try.f66, Option.getD_some, vcCore, vcPlain, yieldT, Int.reduceEq, Int.reduceLT, Int.reduceLE, Int.reduceNe, ↓reduceIte, Nat.reduceEqDiff, Nat.reduceAdd, Nat.reduceLeDiff, Nat.reduceBEq, Value.cells, reduceCtorEq, tyAllRW31h, then_normal, Int.reduceBEq, Int.reduceBNe, Nat.reduceMul, Nat.reduceDiv, Int.reduceToNat, Int.reduceNeg, Int.reduceAdd, Int.reduceSub, Int.reduceMul, Nat.reduceSub, Nat.reduceLT, implies_true, imp_self, cvCore]
  repeat' (first | simp (maxSteps := 2000000) only [vcCore, vcPlain, yieldT, Int.reduceEq, Int.reduceLT, Int.reduceLE, Int.reduceNe, ↓reduceIte, Nat.reduceEqDiff, Nat.reduceAdd, Nat.reduceLeDiff, Nat.reduceBEq, Value.cells, reduceCtorEq, tyAllRW31h, then_normal, Int.reduceBEq, Int.reduceBNe, Nat.reduceMul, Nat.reduceDiv, Int.reduceToNat, Int.reduceNeg, Int.reduceAdd, Int.reduceSub, Int.reduceMul, Nat.reduceSub, Nat.reduceLT, implies_true, imp_self, cvCore, *] | ((first | (with_reducible refine Ret.use (r1 _) fun m1 e1 => ?_) | (with_reducible refine Ret.use (r2 _) fun m1 e1 => ?_) | (with_reducible refine Ret.use (r3 _) fun m1 e1 => ?_)); (try replace X := X.trans e1); (try replace P3 := P3.ext e1); (try (replace o1 := e1 _ _ o1; replace c1 := blk_facts hb1 o1)); (try (replace o2 := e1 _ _ o2; replace c2 := blk_facts hb2 o2))) | (with_reducible refine Ret.q (fun m1 e1 => r1 _) ?_) | (with_reducible refine Ret.q0 (fun m1 e1 => r1 _) ?_) | (with_reducible refine Ret.q (fun m1 e1 => r2 _) ?_) | (with_reducible refine Ret.q0 (fun m1 e1 => r2 _) ?_) | (with_reducible refine Ret.q (fun m1 e1 => r3 _) ?_) | (with_reducible refine Ret.q0 (fun m1 e1 => r3 _) ?_) | ((first | ((with_reducible refine newK_init ?_ ?_ ?_ ?_); (focus (intro b; simp only [evCore, reduceCtorEq, Nat.reduceEqDiff, Nat.reduceAdd, ↓reduceIte, Value.cells, tyAllRW31h]; done)); (focus (simp only [evCore, reduceCtorEq, Nat.reduceEqDiff, Nat.reduceAdd, ↓reduceIte, Value.cells, tyAllRW31h]; done)); (focus (intro b; simp only [evCore, reduceCtorEq, Nat.reduceEqDiff, Nat.reduceAdd, ↓reduceIte, Value.cells, tyAllRW31h]; done))) | ((with_reducible refine newK.id ?_); refine newK_intro ?_) | ((with_reducible refine RunA.id ?_); (first | with_reducible refine rbuild1 sl_38 ze_3 ?_ ?_ ?_ | with_reducible refine rbuild1 sl_47 ze_56 ?_ ?_ ?_); (focus (simp only [Value.cells, List.size_toArray, List.length_cons, List.length_nil]; done)); (focus decide)) | ((first | with_reducible refine bG1 sl_38 ze_3 ?_ ?_ ?_ | with_reducible refine bG1 sl_47 ze_56 ?_ ?_ ?_); (focus (simp only [Value.cells, List.size_toArray, List.length_cons, List.length_nil]; done)); (focus decide)) | ((with_reducible refine RunA.id ?_); (first | with_reducible refine rbuild2 sl_38 ze_3 rfl rfl ?_ | with_reducible refine rbuild2 sl_47 ze_56 rfl rfl ?_)) | (first | with_reducible refine bG2 sl_38 ze_3 rfl rfl ?_ | with_reducible refine bG2 sl_47 ze_56 rfl rfl ?_)); (first | (have := o1; intro b2 m1 hb2 n2 e1 o2; (try (have d21 := ne_of o1 n2; have d12 := d21.symm)); replace n2 := none_of X n2; (try simp only [evCore, reduceCtorEq, Nat.reduceEqDiff, Nat.reduceAdd, ↓reduceIte, Value.cells, tyAllRW31h] at o2)) | (intro b1 m1 hb1 n1 e1 o1; replace n1 := none_of X n1; (try simp only [evCore, reduceCtorEq, Nat.reduceEqDiff, Nat.reduceAdd, ↓reduceIte, Value.cells, tyAllRW31h] at o1))); (try replace X := X.trans e1); (try replace P3 := P3.ext e1); (try (replace o1 := e1 _ _ o1; replace c1 := blk_facts hb1 o1)); (try (replace o2 := e1 _ _ o2; replace c2 := blk_facts hb2 o2)); (try have c1 := blk_facts hb1 o1); (try have c2 := blk_facts hb2 o2)) | ((with_reducible refine CodeA.id ?_); (first | fail)) | ((with_reducible refine And.intro ?_ ?_); (focus omega)) | with_reducible refine cK_both _ _ _ _ _ _ (fun hc => ?_) (fun hc => ?_) | ((with_reducible refine gO_both _ _ (fun hc => ?_) (fun hc => ?_)) <;> (try simp only [Bool.not_true, Bool.not_false] at hc)) | ((with_reducible refine gH_both _ _ (fun hc => ?_) (fun hc => ?_)) <;> (try simp only [Bool.not_true, Bool.not_false] at hc)) | with_reducible refine pickK_both _ (fun hc => ?_) (fun hc => ?_))
  refine agg_eql (ks := [.i .i64, .i .i64, .i .i64, .i .i64, .i .i64]) (by kernel_rfl) (by kernel_rfl) (by kernel_rfl) fun r hr => ?_
  obtain rfl : r = true := hr.2 rfl
  clear hr
  repeat' (first | simp (maxSteps := 2000000) only [vcCore, vcPlain, yieldT, Int.reduceEq, Int.reduceLT, Int.reduceLE, Int.reduceNe, ↓reduceIte, Nat.reduceEqDiff, Nat.reduceAdd, Nat.reduceLeDiff, Nat.reduceBEq, Value.cells, reduceCtorEq, tyAllRW31h, then_normal, Int.reduceBEq, Int.reduceBNe, Nat.reduceMul, Nat.reduceDiv, Int.reduceToNat, Int.reduceNeg, Int.reduceAdd, Int.reduceSub, Int.reduceMul, Nat.reduceSub, Nat.reduceLT, implies_true, imp_self, cvCore, *] | ((first | (with_reducible refine Ret.use (r1 _) fun m1 e1 => ?_) | (with_reducible refine Ret.use (r2 _) fun m1 e1 => ?_) | (with_reducible refine Ret.use (r3 _) fun m1 e1 => ?_)); (try replace X := X.trans e1); (try replace P3 := P3.ext e1); (try (replace o1 := e1 _ _ o1; replace c1 := blk_facts hb1 o1)); (try (replace o2 := e1 _ _ o2; replace c2 := blk_facts hb2 o2))) | (with_reducible refine Ret.q (fun m1 e1 => r1 _) ?_) | (with_reducible refine Ret.q0 (fun m1 e1 => r1 _) ?_) | (with_reducible refine Ret.q (fun m1 e1 => r2 _) ?_) | (with_reducible refine Ret.q0 (fun m1 e1 => r2 _) ?_) | (with_reducible refine Ret.q (fun m1 e1 => r3 _) ?_) | (with_reducible refine Ret.q0 (fun m1 e1 => r3 _) ?_) | ((first | ((with_reducible refine newK_init ?_ ?_ ?_ ?_); (focus (intro b; simp only [evCore, reduceCtorEq, Nat.reduceEqDiff, Nat.reduceAdd, ↓reduceIte, Value.cells, tyAllRW31h]; done)); (focus (simp only [evCore, reduceCtorEq, Nat.reduceEqDiff, Nat.reduceAdd, ↓reduceIte, Value.cells, tyAllRW31h]; done)); (focus (intro b; simp only [evCore, reduceCtorEq, Nat.reduceEqDiff, Nat.reduceAdd, ↓reduceIte, Value.cells, tyAllRW31h]; done))) | ((with_reducible refine newK.id ?_); refine newK_intro ?_) | ((with_reducible refine RunA.id ?_); (first | with_reducible refine rbuild1 sl_38 ze_3 ?_ ?_ ?_ | with_reducible refine rbuild1 sl_47 ze_56 ?_ ?_ ?_); (focus (simp only [Value.cells, List.size_toArray, List.length_cons, List.length_nil]; done)); (focus decide)) | ((first | with_reducible refine bG1 sl_38 ze_3 ?_ ?_ ?_ | with_reducible refine bG1 sl_47 ze_56 ?_ ?_ ?_); (focus (simp only [Value.cells, List.size_toArray, List.length_cons, List.length_nil]; done)); (focus decide)) | ((with_reducible refine RunA.id ?_); (first | with_reducible refine rbuild2 sl_38 ze_3 rfl rfl ?_ | with_reducible refine rbuild2 sl_47 ze_56 rfl rfl ?_)) | (first | with_reducible refine bG2 sl_38 ze_3 rfl rfl ?_ | with_reducible refine bG2 sl_47 ze_56 rfl rfl ?_)); (first | (have := o1; intro b2 m1 hb2 n2 e1 o2; (try (have d21 := ne_of o1 n2; have d12 := d21.symm)); replace n2 := none_of X n2; (try simp only [evCore, reduceCtorEq, Nat.reduceEqDiff, Nat.reduceAdd, ↓reduceIte, Value.cells, tyAllRW31h] at o2)) | (intro b1 m1 hb1 n1 e1 o1; replace n1 := none_of X n1; (try simp only [evCore, reduceCtorEq, Nat.reduceEqDiff, Nat.reduceAdd, ↓reduceIte, Value.cells, tyAllRW31h] at o1))); (try replace X := X.trans e1); (try replace P3 := P3.ext e1); (try (replace o1 := e1 _ _ o1; replace c1 := blk_facts hb1 o1)); (try (replace o2 := e1 _ _ o2; replace c2 := blk_facts hb2 o2)); (try have c1 := blk_facts hb1 o1); (try have c2 := blk_facts hb2 o2)) | ((with_reducible refine CodeA.id ?_); (first | fail)) | ((with_reducible refine And.intro ?_ ?_); (focus omega)) | with_reducible refine cK_both _ _ _ _ _ _ (fun hc => ?_) (fun hc => ?_) | ((with_reducible refine gO_both _ _ (fun hc => ?_) (fun hc => ?_)) <;> (try simp only [Bool.not_true, Bool.not_false] at hc)) | ((with_reducible refine gH_both _ _ (fun hc => ?_) (fun hc => ?_)) <;> (try simp only [Bool.not_true, Bool.not_false] at hc)) | with_reducible refine pickK_both _ (fun hc => ?_) (fun hc => ?_))
  all_goals exact h _ X
/-- What a module sends, message by message: each is named once. -/
theorem mem_take_step {l : List Int} {j : Nat} {y : Int} (hn : l.Nodup) (hy : l[j]? = some y) (k w : Int) : (if k ∈ l.take (j + 1) then w else 0) = (if k ∈ l.take j then w else 0) + (if y = k then w else 0) := by
  have hno : y ∉ l.take j := fun hm => by
    have h2 := hn
    rw [← List.take_append_drop j l, drop_step hy] at h2
    exact (List.nodup_append.1 h2).2.2 y hm y (by simp) rfl
  rw [take_step hy]
  by_cases e : y = k
  · subst e
    rw [if_pos (by simp), if_neg hno, if_pos rfl, Int.zero_add]
  · rw [if_neg e, Int.add_zero]
    simp [Ne.symm e]
theorem clash_in (f : Nat → Int) {k : Nat} (hk : 1 < f k) : ∀ n, k < n → (clashL f n)[(clashL f k).length]? = some (k : Int)
  | 0, h => by omega
  | n + 1, h => by
    rw [clashL_succ]
    by_cases e : k = n
    · subst e
      rw [if_pos hk, List.getElem?_append_right (Nat.le_refl _)]
      simp
    · have ih := clash_in f hk n (by omega)
      split
      · rw [List.getElem?_append_left (List.getElem?_eq_some_iff.1 ih).1]; exact ih
      · exact ih
theorem maxFrom_fold : ∀ (l : List Int) (a : Int), maxFrom a l = l.foldl max a
  | [], a => rfl
  | x :: l, a => maxFrom_fold l (max a x)
theorem maxL_fold {l : List Int} (h : ∀ x ∈ l, 1 ≤ x) : maxL l = l.foldl max 0 := by
  cases l with
  | nil => rfl
  | cons x l =>
    have := h x (by simp)
    show maxFrom x l = l.foldl max (max 0 x)
    rw [maxFrom_fold, show max 0 x = x by omega]
end
end Go.Proofs.Ytcddhbhdpleppaa.R
/- The plan's layer: the reference's view, over the logic of partial memories. No conditions. -/
set_option linter.unusedVariables false
set_option linter.unusedSimpArgs false
namespace Go.Proofs.Ytcddhbhdpleppaa.R
open Go Go.RowKit Go.Proofs.Ytcddhbhdpleppaa
set_option maxRecDepth 100000


set_option maxHeartbeats 8000000
section
variable {W0 : World}
theorem flat_one {α : Type} (f : α → List Value) (x : α) : [x].flatMap f = f x := by simp
end
end Go.Proofs.Ytcddhbhdpleppaa.R
