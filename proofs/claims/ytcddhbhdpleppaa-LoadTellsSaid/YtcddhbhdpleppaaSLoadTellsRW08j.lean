/- The document's answer of the validity layer: schedules. No conditions. -/
import Derived.Test.YtcddhbhdpleppaaRZ
import Derived.Test.YtcddhbhdpleppaaSLoadTellsRW08g
set_option linter.unusedVariables false
set_option linter.unusedSimpArgs false
namespace Go.Proofs.Ytcddhbhdpleppaa.R
open Go Go.RowKit Go.Proofs.Ytcddhbhdpleppaa
set_option maxRecDepth 100000
set_option maxHeartbeats 8000000
theorem tyAllRW08i : type_of% (And.intro (And.intro ty_3 (And.intro ty_4 ty_38)) (And.intro (And.intro ty_55 ty_82) (And.intro ty_87 ty_100))) := (And.intro (And.intro ty_3 (And.intro ty_4 ty_38)) (And.intro (And.intro ty_55 ty_82) (And.intro ty_87 ty_100)))
section
variable {W0 : World}
theorem maxFrom_any : ∀ (l : List Int) (a : Int), (200 < maxFrom a l) ↔ (200 < a ∨ l.any (fun x => decide (200 < x)) = true)
  | [], a => by simp [maxFrom]
  | x :: l, a => by
    unfold maxFrom
    rw [maxFrom_any l (max a x), List.any_cons, Bool.or_eq_true, decide_eq_true_eq]
    constructor
    · rintro (h | h)
      · rcases (by omega : 200 < a ∨ 200 < x) with h | h
        · exact .inl h
        · exact .inr (.inl h)
      · exact .inr (.inr h)
    · rintro (h | h | h)
      · exact .inl (by omega)
      · exact .inl (by omega)
      · exact .inr h
theorem maxL_any {l : List Int} (h : 0 < l.length) : (200 < maxL l) ↔ l.any (fun x => decide (200 < x)) = true := by
  cases l with
  | nil => simp at h
  | cons x l =>
    show 200 < maxFrom x l ↔ _
    rw [maxFrom_any, List.any_cons, Bool.or_eq_true, decide_eq_true_eq]
theorem frE_many {l : List WinV} {k v : Int} (h : 32 < l.length) : frE l k v = (-1, 3) := by unfold frE; rw [if_pos h]
theorem frE_bad {l : List WinV} {k v e : Int} {i : Nat} (h : ¬ 32 < l.length) (hb : badAt k 0 l = some (i, e)) : frE l k v = ((i : Int), e) := by unfold frE; rw [if_neg h, hb]
theorem frE_far {l : List WinV} {k v : Int} (h : ¬ 32 < l.length) (hb : badAt k 0 l = none) (hs : (spansOf v l).any (fun x => decide (200 < x)) = true) : frE l k v = (-1, 16) := by
  unfold frE; rw [if_neg h, hb]; simp only; rw [if_pos ((maxL_any (spansOf_pos v l)).2 hs)]
theorem frE_ok {l : List WinV} {k v : Int} (h : ¬ 32 < l.length) (hb : badAt k 0 l = none) (hs : (spansOf v l).any (fun x => decide (200 < x)) = false) : frE l k v = (0, 0) := by
  unfold frE; rw [if_neg h, hb]; simp only; rw [if_neg (fun q => by rw [(maxL_any (spansOf_pos v l)).1 q] at hs; cases hs)]
theorem check_0 {s : SchV} (hm : ¬ (s.mods < 2 ∨ 16 < s.mods)) (h : (frE s.f0.l s.mods 0).2 ≠ 0) : checkE s = (0, (frE s.f0.l s.mods 0).1, (frE s.f0.l s.mods 0).2) := by unfold checkE; rw [if_neg hm, if_pos h]
theorem check_1 {s : SchV} (hm : ¬ (s.mods < 2 ∨ 16 < s.mods)) (h0 : (frE s.f0.l s.mods 0).2 = 0) (h : (frE s.f1.l s.mods 1).2 ≠ 0) : checkE s = (1, (frE s.f1.l s.mods 1).1, (frE s.f1.l s.mods 1).2) := by unfold checkE; rw [if_neg hm, if_neg (by omega), if_pos h]
theorem check_2 {s : SchV} (hm : ¬ (s.mods < 2 ∨ 16 < s.mods)) (h0 : (frE s.f0.l s.mods 0).2 = 0) (h : (frE s.f1.l s.mods 1).2 = 0) : checkE s = (0, 0, 0) := by unfold checkE; rw [if_neg hm, if_neg (by omega), if_neg (by omega)]
abbrev tup3 (x : Int × Int × Int) : Value := .tuple #[.int .i64 x.1, .int .i64 x.2.1, .int .i64 x.2.2]
theorem ref08_Check {m : Mem} {s : SchV} {A0 A1 : Option Addr} {y0 y1 : Nat} (k0 : ∀ M, Ext m M → WinsOk W0 M ⟨A0, y0, s.f0.l⟩) (k1 : ∀ M, Ext m M → WinsOk W0 M ⟨A1, y1, s.f1.l⟩) :
    Ret Try.prog W0 58 #[.int .i64 s.mods, .agg #[.slice A0 s.f0.l.length y0, .slice A1 s.f1.l.length y1]] m (tup3 (checkE s)) := by
  by_cases hm : s.mods < 2 ∨ 16 < s.mods
  · have e : checkE s = (0, -1, 2) := by unfold checkE; rw [if_pos hm]
    rw [e]
    rcases (by omega : s.mods < 2 ∨ (¬ s.mods < 2 ∧ 16 < s.mods)) with g | ⟨g, g'⟩
    all_goals
      clear hm e
      refine ⟨fun K h => ?_⟩
      refine en_58 (l := [.int .i64 s.mods, .agg #[.slice A0 s.f0.l.length y0, .slice A1 s.f1.l.length y1]]) (by simp [Try.ntmps58]) ?_
      have X : Ext m m := Ext.refl m
      simp (maxSteps := 2000000) only [Try.f58, Option.getD_some, vcCore, vcPlain, yieldT, Int.reduceEq, Int.reduceLT, Int.reduceLE, Int.reduceNe, ↓reduceIte, Nat.reduceEqDiff, Nat.reduceAdd, Nat.reduceLeDiff, Nat.reduceBEq, Value.cells, reduceCtorEq, tyAllRW08i, then_normal, Int.reduceBEq, Int.reduceBNe, Nat.reduceMul, Nat.reduceDiv, Int.reduceToNat, Int.reduceNeg, Int.reduceAdd, Int.reduceSub, Int.reduceMul, Nat.reduceSub, Nat.reduceLT, implies_true, imp_self, cvCore]
      repeat' (first | simp (maxSteps := 2000000) only [vcCore, vcPlain, yieldT, Int.reduceEq, Int.reduceLT, Int.reduceLE, Int.reduceNe, ↓reduceIte, Nat.reduceEqDiff, Nat.reduceAdd, Nat.reduceLeDiff, Nat.reduceBEq, Value.cells, reduceCtorEq, tyAllRW08i, then_normal, Int.reduceBEq, Int.reduceBNe, Nat.reduceMul, Nat.reduceDiv, Int.reduceToNat, Int.reduceNeg, Int.reduceAdd, Int.reduceSub, Int.reduceMul, Nat.reduceSub, Nat.reduceLT, implies_true, imp_self, cvCore, *] | ((first | ((with_reducible refine newK_init ?_ ?_ ?_ ?_); (focus (intro b; simp only [evCore, reduceCtorEq, Nat.reduceEqDiff, Nat.reduceAdd, ↓reduceIte, Value.cells, tyAllRW08i]; done)); (focus (simp only [evCore, reduceCtorEq, Nat.reduceEqDiff, Nat.reduceAdd, ↓reduceIte, Value.cells, tyAllRW08i]; done)); (focus (intro b; simp only [evCore, reduceCtorEq, Nat.reduceEqDiff, Nat.reduceAdd, ↓reduceIte, Value.cells, tyAllRW08i]; done))) | ((with_reducible refine newK.id ?_); refine newK_intro ?_) | ((with_reducible refine RunA.id ?_); (first | with_reducible refine rbuild1 sl_38 ze_3 ?_ ?_ ?_ | with_reducible refine rbuild1 sl_87 ze_82 ?_ ?_ ?_); (focus (simp only [Value.cells, List.size_toArray, List.length_cons, List.length_nil]; done)); (focus decide)) | ((first | with_reducible refine bG1 sl_38 ze_3 ?_ ?_ ?_ | with_reducible refine bG1 sl_87 ze_82 ?_ ?_ ?_); (focus (simp only [Value.cells, List.size_toArray, List.length_cons, List.length_nil]; done)); (focus decide)) | ((with_reducible refine RunA.id ?_); (first | with_reducible refine rbuild2 sl_38 ze_3 rfl rfl ?_ | with_reducible refine rbuild2 sl_87 ze_82 rfl rfl ?_)) | (first | with_reducible refine bG2 sl_38 ze_3 rfl rfl ?_ | with_reducible refine bG2 sl_87 ze_82 rfl rfl ?_)); (first | (have := o1; intro b2 m1 hb2 n2 e1 o2; (try (have d21 := ne_of o1 n2; have d12 := d21.symm)); replace n2 := none_of X n2; (try simp only [evCore, reduceCtorEq, Nat.reduceEqDiff, Nat.reduceAdd, ↓reduceIte, Value.cells, tyAllRW08i] at o2)) | (intro b1 m1 hb1 n1 e1 o1; replace n1 := none_of X n1; (try simp only [evCore, reduceCtorEq, Nat.reduceEqDiff, Nat.reduceAdd, ↓reduceIte, Value.cells, tyAllRW08i] at o1))); (try replace X := X.trans e1); (try replace w1 := w1.ext e1); (try replace u1 := own_facts w1); (try replace w2 := w2.ext e1); (try replace u2 := own_facts w2); (try replace w3 := w3.ext e1); (try replace u3 := own_facts w3); (try (replace o1 := e1 _ _ o1; replace c1 := blk_facts hb1 o1)); (try (replace o2 := e1 _ _ o2; replace c2 := blk_facts hb2 o2)); (try have c1 := blk_facts hb1 o1); (try have c2 := blk_facts hb2 o2)) | ((with_reducible refine CodeA.id ?_); (first | fail)) | ((with_reducible refine And.intro ?_ ?_); (focus omega)) | with_reducible refine cK_both _ _ _ _ _ _ (fun hc => ?_) (fun hc => ?_) | ((with_reducible refine gO_both _ _ (fun hc => ?_) (fun hc => ?_)) <;> (try simp only [Bool.not_true, Bool.not_false] at hc)) | ((with_reducible refine gH_both _ _ (fun hc => ?_) (fun hc => ?_)) <;> (try simp only [Bool.not_true, Bool.not_false] at hc)) | with_reducible refine pickK_both _ (fun hc => ?_) (fun hc => ?_))
  · have g : ¬ s.mods < 2 := by omega
    have g' : ¬ 16 < s.mods := by omega
    have hc0 := check_0 hm
    have hc1 := check_1 hm
    have hc2 := check_2 hm
    replace hc0 : Hid _ := hc0
    replace hc1 : Hid _ := hc1
    replace hc2 : Hid _ := hc2
    clear hm
    refine ⟨fun K h => ?_⟩
    refine en_58 (l := [.int .i64 s.mods, .agg #[.slice A0 s.f0.l.length y0, .slice A1 s.f1.l.length y1]]) (by simp [Try.ntmps58]) ?_
    have X : Ext m m := Ext.refl m
    simp (maxSteps := 2000000) only [Try.f58, Option.getD_some, vcCore, vcPlain, yieldT, Int.reduceEq, Int.reduceLT, Int.reduceLE, Int.reduceNe, ↓reduceIte, Nat.reduceEqDiff, Nat.reduceAdd, Nat.reduceLeDiff, Nat.reduceBEq, Value.cells, reduceCtorEq, tyAllRW08i, then_normal, Int.reduceBEq, Int.reduceBNe, Nat.reduceMul, Nat.reduceDiv, Int.reduceToNat, Int.reduceNeg, Int.reduceAdd, Int.reduceSub, Int.reduceMul, Nat.reduceSub, Nat.reduceLT, implies_true, imp_self, cvCore]
    replace h : Hid _ := h
    repeat' (first | simp (maxSteps := 2000000) only [vcCore, vcPlain, yieldT, Int.reduceEq, Int.reduceLT, Int.reduceLE, Int.reduceNe, ↓reduceIte, Nat.reduceEqDiff, Nat.reduceAdd, Nat.reduceLeDiff, Nat.reduceBEq, Value.cells, reduceCtorEq, tyAllRW08i, then_normal, Int.reduceBEq, Int.reduceBNe, Nat.reduceMul, Nat.reduceDiv, Int.reduceToNat, Int.reduceNeg, Int.reduceAdd, Int.reduceSub, Int.reduceMul, Nat.reduceSub, Nat.reduceLT, implies_true, imp_self, cvCore, *] | ((first | ((with_reducible refine newK_init ?_ ?_ ?_ ?_); (focus (intro b; simp only [evCore, reduceCtorEq, Nat.reduceEqDiff, Nat.reduceAdd, ↓reduceIte, Value.cells, tyAllRW08i]; done)); (focus (simp only [evCore, reduceCtorEq, Nat.reduceEqDiff, Nat.reduceAdd, ↓reduceIte, Value.cells, tyAllRW08i]; done)); (focus (intro b; simp only [evCore, reduceCtorEq, Nat.reduceEqDiff, Nat.reduceAdd, ↓reduceIte, Value.cells, tyAllRW08i]; done))) | ((with_reducible refine newK.id ?_); refine newK_intro ?_) | ((with_reducible refine RunA.id ?_); (first | with_reducible refine rbuild1 sl_38 ze_3 ?_ ?_ ?_ | with_reducible refine rbuild1 sl_87 ze_82 ?_ ?_ ?_); (focus (simp only [Value.cells, List.size_toArray, List.length_cons, List.length_nil]; done)); (focus decide)) | ((first | with_reducible refine bG1 sl_38 ze_3 ?_ ?_ ?_ | with_reducible refine bG1 sl_87 ze_82 ?_ ?_ ?_); (focus (simp only [Value.cells, List.size_toArray, List.length_cons, List.length_nil]; done)); (focus decide)) | ((with_reducible refine RunA.id ?_); (first | with_reducible refine rbuild2 sl_38 ze_3 rfl rfl ?_ | with_reducible refine rbuild2 sl_87 ze_82 rfl rfl ?_)) | (first | with_reducible refine bG2 sl_38 ze_3 rfl rfl ?_ | with_reducible refine bG2 sl_87 ze_82 rfl rfl ?_)); (first | (have := o1; intro b2 m1 hb2 n2 e1 o2; (try (have d21 := ne_of o1 n2; have d12 := d21.symm)); replace n2 := none_of X n2; (try simp only [evCore, reduceCtorEq, Nat.reduceEqDiff, Nat.reduceAdd, ↓reduceIte, Value.cells, tyAllRW08i] at o2)) | (intro b1 m1 hb1 n1 e1 o1; replace n1 := none_of X n1; (try simp only [evCore, reduceCtorEq, Nat.reduceEqDiff, Nat.reduceAdd, ↓reduceIte, Value.cells, tyAllRW08i] at o1))); (try replace X := X.trans e1); (try replace w1 := w1.ext e1); (try replace u1 := own_facts w1); (try replace w2 := w2.ext e1); (try replace u2 := own_facts w2); (try replace w3 := w3.ext e1); (try replace u3 := own_facts w3); (try (replace o1 := e1 _ _ o1; replace c1 := blk_facts hb1 o1)); (try (replace o2 := e1 _ _ o2; replace c2 := blk_facts hb2 o2)); (try have c1 := blk_facts hb1 o1); (try have c2 := blk_facts hb2 o2)) | ((with_reducible refine CodeA.id ?_); (first | fail)) | ((with_reducible refine And.intro ?_ ?_); (focus omega)) | with_reducible refine cK_both _ _ _ _ _ _ (fun hc => ?_) (fun hc => ?_) | ((with_reducible refine gO_both _ _ (fun hc => ?_) (fun hc => ?_)) <;> (try simp only [Bool.not_true, Bool.not_false] at hc)) | ((with_reducible refine gH_both _ _ (fun hc => ?_) (fun hc => ?_)) <;> (try simp only [Bool.not_true, Bool.not_false] at hc)) | with_reducible refine pickK_both _ (fun hc => ?_) (fun hc => ?_))
    refine loop_rule (fun d t m' => Ext m m' ∧ ∃ i : Int, 0 ≤ i ∧ i ≤ 2 ∧ d = (2 - i).toNat ∧ t 0 = .int .i64 s.mods ∧ t 3 = .pointer (some ⟨b1, 0, none⟩) ∧ t 7 = .int .i64 i ∧ Hid (1 ≤ i → (frE s.f0.l s.mods 0).2 = 0) ∧ Hid (2 ≤ i → (frE s.f1.l s.mods 1).2 = 0) ∧
        m' b1 = some (.cells #[.slice A0 s.f0.l.length y0, .slice A1 s.f1.l.length y1] 100))
      2 (by kernel_rfl) ⟨X, 0, by omega, by omega, by omega, rfl, rfl, rfl, (show 1 ≤ (0 : Int) → _ from by omega), (show 2 ≤ (0 : Int) → _ from by omega), o1⟩ ?_
    clear X o1 c1 n1
    rintro d t m' ⟨X, i, hi0, hi2, rfl, t0, t3, t7, he0, he1, o1⟩
    have cb1 := blk_facts hb1 o1
    have v1 : IntKind.i64.wrap 1 = 1 := rfl
    have v2 : IntKind.i64.wrap 2 = 2 := rfl
    rcases (by omega : i = 0 ∨ i = 1 ∨ i = 2) with rfl | rfl | rfl
    · have hC : (frE s.f0.l s.mods 0).2 ≠ 0 → checkE s = (0, (frE s.f0.l s.mods 0).1, (frE s.f0.l s.mods 0).2) := hc0
      replace hC : Hid _ := hC
      by_cases h32 : 32 < s.f0.l.length
      · have h32' : (32 : Int) < (s.f0.l.length : Int) := by omega
        have e := hC (by rw [frE_many h32]; decide)
        rw [frE_many h32] at e
        replace h : ∀ m', Ext m m' → K (tup3 (checkE s)) m' := h
        rw [e] at h
        clear e h32 hC he0 he1
        repeat' (first | simp (maxSteps := 2000000) only [vcCore, vcPlain, yieldT, Int.reduceEq, Int.reduceLT, Int.reduceLE, Int.reduceNe, ↓reduceIte, Nat.reduceEqDiff, Nat.reduceAdd, Nat.reduceLeDiff, Nat.reduceBEq, Value.cells, reduceCtorEq, tyAllRW08i, then_normal, Int.reduceBEq, Int.reduceBNe, Nat.reduceMul, Nat.reduceDiv, Int.reduceToNat, Int.reduceNeg, Int.reduceAdd, Int.reduceSub, Int.reduceMul, Nat.reduceSub, Nat.reduceLT, implies_true, imp_self, cvCore, *] | ((with_reducible refine CodeA.id ?_); (first | fail)) | ((with_reducible refine And.intro ?_ ?_); (focus omega)) | with_reducible refine cK_both _ _ _ _ _ _ (fun hc => ?_) (fun hc => ?_) | ((with_reducible refine gO_both _ _ (fun hc => ?_) (fun hc => ?_)) <;> (try simp only [Bool.not_true, Bool.not_false] at hc)) | ((with_reducible refine gH_both _ _ (fun hc => ?_) (fun hc => ?_)) <;> (try simp only [Bool.not_true, Bool.not_false] at hc)) | with_reducible refine pickK_both _ (fun hc => ?_) (fun hc => ?_))
      · have h32' : ¬ (32 : Int) < (s.f0.l.length : Int) := by omega
        replace h32 : Hid _ := h32
        repeat' (first | simp (maxSteps := 2000000) only [vcCore, vcPlain, yieldT, Int.reduceEq, Int.reduceLT, Int.reduceLE, Int.reduceNe, ↓reduceIte, Nat.reduceEqDiff, Nat.reduceAdd, Nat.reduceLeDiff, Nat.reduceBEq, Value.cells, reduceCtorEq, tyAllRW08i, then_normal, Int.reduceBEq, Int.reduceBNe, Nat.reduceMul, Nat.reduceDiv, Int.reduceToNat, Int.reduceNeg, Int.reduceAdd, Int.reduceSub, Int.reduceMul, Nat.reduceSub, Nat.reduceLT, implies_true, imp_self, cvCore, *] | ((with_reducible refine CodeA.id ?_); (first | fail)) | ((with_reducible refine And.intro ?_ ?_); (focus omega)) | with_reducible refine cK_both _ _ _ _ _ _ (fun hc => ?_) (fun hc => ?_) | ((with_reducible refine gO_both _ _ (fun hc => ?_) (fun hc => ?_)) <;> (try simp only [Bool.not_true, Bool.not_false] at hc)) | ((with_reducible refine gH_both _ _ (fun hc => ?_) (fun hc => ?_)) <;> (try simp only [Bool.not_true, Bool.not_false] at hc)) | with_reducible refine pickK_both _ (fun hc => ?_) (fun hc => ?_))
        refine loop_rule (fun d t m2 => Ext m m2 ∧ ∃ i : Nat, i ≤ s.f0.l.length ∧ d = s.f0.l.length - i ∧ t 0 = .int .i64 s.mods ∧ t 3 = .pointer (some ⟨b1, 0, none⟩) ∧ t 7 = .int .i64 0 ∧ t 8 = .int .i64 i ∧ badAt s.mods i (s.f0.l.drop i) = badAt s.mods 0 s.f0.l ∧
            m2 b1 = some (.cells #[.slice A0 s.f0.l.length y0, .slice A1 s.f1.l.length y1] 100))
          s.f0.l.length (by kernel_rfl) ⟨X, 0, by omega, by omega, t0, t3, t7, rfl, rfl, o1⟩ ?_
        clear X t0 t3 t7 o1 cb1
        rintro d t m2 ⟨X, i, hi, rfl, t0, t3, t7, t8, hbd, o1⟩
        have cb1 := blk_facts hb1 o1
        by_cases hlt : i < s.f0.l.length
        · have h1 := nat_lt hlt
          have h2 := wrap_succ (i := i) (by omega)
          have h3 : (0 : Int) ≤ (i : Int) := by omega
          obtain ⟨w, hw⟩ := get_some hlt
          obtain ⟨a, ha, hca, _, hok⟩ := (k0 _ X).at (w := w) hw
          replace ha : A0 = some a := ha
          rw [drop_step hw, badAt] at hbd
          have cb2 : ∀ j, cellA W0 m2 ⟨b1, j, none⟩ = (#[Value.slice (some a) s.f0.l.length y0, .slice A1 s.f1.l.length y1] : Array Value)[j]? := by rw [← show A0 = some a from ha]; exact cb1.1
          clear cb1 hw
          replace ha : Hid _ := ha
          by_cases he : winE w s.mods = 0
          · rw [if_pos he] at hbd
            have he' : (winE w s.mods != 0) = false := by rw [he]; rfl
            replace hbd : Hid _ := hbd
            replace he : Hid _ := he
            repeat' (first | simp (maxSteps := 2000000) only [vcCore, vcPlain, yieldT, Int.reduceEq, Int.reduceLT, Int.reduceLE, Int.reduceNe, ↓reduceIte, Nat.reduceEqDiff, Nat.reduceAdd, Nat.reduceLeDiff, Nat.reduceBEq, Value.cells, reduceCtorEq, tyAllRW08i, then_normal, Int.reduceBEq, Int.reduceBNe, Nat.reduceMul, Nat.reduceDiv, Int.reduceToNat, Int.reduceNeg, Int.reduceAdd, Int.reduceSub, Int.reduceMul, Nat.reduceSub, Nat.reduceLT, implies_true, imp_self, cvCore, *, mul_nat] | ((first | (with_reducible refine Ret.use (ref08_Window (w := w) hok) fun m1 e1 => ?_)); (try replace X := X.trans e1); (try replace w1 := w1.ext e1); (try replace u1 := own_facts w1); (try replace w2 := w2.ext e1); (try replace u2 := own_facts w2); (try replace w3 := w3.ext e1); (try replace u3 := own_facts w3); (try (replace o1 := e1 _ _ o1; replace c1 := blk_facts hb1 o1)); (try (replace o2 := e1 _ _ o2; replace c2 := blk_facts hb2 o2))) | (with_reducible refine Ret.q (fun m1 e1 => ref08_Window (w := w) hok) ?_) | (with_reducible refine Ret.q0 (fun m1 e1 => ref08_Window (w := w) hok) ?_) | ((with_reducible refine CodeA.id ?_); (first | fail)) | ((with_reducible refine And.intro ?_ ?_); (focus omega)) | with_reducible refine cK_both _ _ _ _ _ _ (fun hc => ?_) (fun hc => ?_) | ((with_reducible refine gO_both _ _ (fun hc => ?_) (fun hc => ?_)) <;> (try simp only [Bool.not_true, Bool.not_false] at hc)) | ((with_reducible refine gH_both _ _ (fun hc => ?_) (fun hc => ?_)) <;> (try simp only [Bool.not_true, Bool.not_false] at hc)) | with_reducible refine pickK_both _ (fun hc => ?_) (fun hc => ?_))
            exact ⟨s.f0.l.length - (i + 1), by omega, by assumption, i + 1, by omega, rfl, t0, t3, t7, rfl, hbd, by assumption⟩
          · rw [if_neg he] at hbd
            have he' : (winE w s.mods != 0) = true := bne_yes he
            have hfb := frE_bad (v := 0) h32 hbd.symm
            have e := hC (by rw [hfb]; exact he)
            rw [hfb] at e
            replace h : ∀ m', Ext m m' → K (tup3 (checkE s)) m' := h
            rw [e] at h
            clear e hfb he hbd hC he0 he1
            repeat' (first | simp (maxSteps := 2000000) only [vcCore, vcPlain, yieldT, Int.reduceEq, Int.reduceLT, Int.reduceLE, Int.reduceNe, ↓reduceIte, Nat.reduceEqDiff, Nat.reduceAdd, Nat.reduceLeDiff, Nat.reduceBEq, Value.cells, reduceCtorEq, tyAllRW08i, then_normal, Int.reduceBEq, Int.reduceBNe, Nat.reduceMul, Nat.reduceDiv, Int.reduceToNat, Int.reduceNeg, Int.reduceAdd, Int.reduceSub, Int.reduceMul, Nat.reduceSub, Nat.reduceLT, implies_true, imp_self, cvCore, *, mul_nat] | ((first | (with_reducible refine Ret.use (ref08_Window (w := w) hok) fun m1 e1 => ?_)); (try replace X := X.trans e1); (try replace w1 := w1.ext e1); (try replace u1 := own_facts w1); (try replace w2 := w2.ext e1); (try replace u2 := own_facts w2); (try replace w3 := w3.ext e1); (try replace u3 := own_facts w3); (try (replace o1 := e1 _ _ o1; replace c1 := blk_facts hb1 o1)); (try (replace o2 := e1 _ _ o2; replace c2 := blk_facts hb2 o2))) | (with_reducible refine Ret.q (fun m1 e1 => ref08_Window (w := w) hok) ?_) | (with_reducible refine Ret.q0 (fun m1 e1 => ref08_Window (w := w) hok) ?_) | ((with_reducible refine CodeA.id ?_); (first | fail)) | ((with_reducible refine And.intro ?_ ?_); (focus omega)) | with_reducible refine cK_both _ _ _ _ _ _ (fun hc => ?_) (fun hc => ?_) | ((with_reducible refine gO_both _ _ (fun hc => ?_) (fun hc => ?_)) <;> (try simp only [Bool.not_true, Bool.not_false] at hc)) | ((with_reducible refine gH_both _ _ (fun hc => ?_) (fun hc => ?_)) <;> (try simp only [Bool.not_true, Bool.not_false] at hc)) | with_reducible refine pickK_both _ (fun hc => ?_) (fun hc => ?_))
        · have h1 := nat_not_lt hlt
          rw [List.drop_eq_nil_of_le (by omega)] at hbd
          have hbn : badAt s.mods 0 s.f0.l = none := hbd.symm
          obtain ⟨xs, hxs⟩ : ∃ xs, spansOf 0 s.f0.l = xs := ⟨_, rfl⟩
          have hxl : xs.length ≤ 40 := by
            rw [← hxs]; have := (stR_le (v := 0) (by omega) s.f0.l).1; have h4 : ¬ 32 < s.f0.l.length := h32; simp [spansOf]; omega
          have sp : ∀ M, Ext m M → Mk Try.prog W0 69 #[.slice A0 s.f0.l.length y0, .int .i64 0] M 3 1 xs.length (i64 xs) := fun M e => by
            have := ref08_Spans (W0 := W0) (m := M) (A := A0) (c := y0) (l := s.f0.l) (v := 0) (by omega) (fun M' e' => (k0 _ (e.trans e')).rd) (by have h4 : ¬ 32 < s.f0.l.length := h32; omega)
            rw [hxs] at this; exact this
          replace hbn : Hid _ := hbn
          replace hxs : Hid _ := hxs
          clear hbd hlt
          repeat' (first | simp (maxSteps := 2000000) only [vcCore, vcPlain, yieldT, Int.reduceEq, Int.reduceLT, Int.reduceLE, Int.reduceNe, ↓reduceIte, Nat.reduceEqDiff, Nat.reduceAdd, Nat.reduceLeDiff, Nat.reduceBEq, Value.cells, reduceCtorEq, tyAllRW08i, then_normal, Int.reduceBEq, Int.reduceBNe, Nat.reduceMul, Nat.reduceDiv, Int.reduceToNat, Int.reduceNeg, Int.reduceAdd, Int.reduceSub, Int.reduceMul, Nat.reduceSub, Nat.reduceLT, implies_true, imp_self, cvCore, *] | ((first | ((with_reducible refine CallA.at 69 ?_); first | (have := S2; (with_reducible refine Mk.use (sp _ X) fun A3 q3 m1 S3 => ?_); have e1 := S3.ext; have w3 := S3.own) | (have := S1; (with_reducible refine Mk.use (sp _ X) fun A2 q2 m1 S2 => ?_); have e1 := S2.ext; have w2 := S2.own) | ((with_reducible refine Mk.use (sp _ X) fun A1 q1 m1 S1 => ?_); have e1 := S1.ext; have w1 := S1.own))); (try replace X := X.trans e1); (try replace w1 := w1.ext e1); (try replace u1 := own_facts w1); (try replace w2 := w2.ext e1); (try replace u2 := own_facts w2); (try replace w3 := w3.ext e1); (try replace u3 := own_facts w3); (try (replace o1 := e1 _ _ o1; replace c1 := blk_facts hb1 o1)); (try (replace o2 := e1 _ _ o2; replace c2 := blk_facts hb2 o2))) | ((with_reducible refine CodeA.id ?_); (first | fail)) | ((with_reducible refine And.intro ?_ ?_); (focus omega)) | with_reducible refine cK_both _ _ _ _ _ _ (fun hc => ?_) (fun hc => ?_) | ((with_reducible refine gO_both _ _ (fun hc => ?_) (fun hc => ?_)) <;> (try simp only [Bool.not_true, Bool.not_false] at hc)) | ((with_reducible refine gH_both _ _ (fun hc => ?_) (fun hc => ?_)) <;> (try simp only [Bool.not_true, Bool.not_false] at hc)) | with_reducible refine pickK_both _ (fun hc => ?_) (fun hc => ?_))
          have hx0 : 0 < xs.length := by rw [← show spansOf 0 s.f0.l = xs from hxs]; exact spansOf_pos _ _
          obtain ⟨gs, rfl⟩ := own_head w1 hx0
          refine loop_rule (fun d t m3 => Ext m m3 ∧ ∃ j : Nat, j ≤ xs.length ∧ d = xs.length - j ∧ t 0 = .int .i64 s.mods ∧ t 3 = .pointer (some ⟨b1, 0, none⟩) ∧ t 7 = .int .i64 0 ∧ t 10 = .slice (some ⟨gs, 0, none⟩) xs.length q1 ∧ t 11 = .int .i64 j ∧ (xs.drop j).any (fun x => decide (200 < x)) = xs.any (fun x => decide (200 < x)) ∧
              OwnS W0 m3 3 1 (.slice (some ⟨gs, 0, none⟩) xs.length q1) xs.length (i64 xs) ∧ m3 b1 = some (.cells #[.slice A0 s.f0.l.length y0, .slice A1 s.f1.l.length y1] 100))
            xs.length (by kernel_rfl) ⟨X, 0, by omega, by omega, t0, t3, t7, rfl, rfl, by simp, w1, o1⟩ ?_
          clear X t0 t3 t7 t8 o1 cb1 w1 S1 e1
          rintro d t m3 ⟨X, j, hj, rfl, t0, t3, t7, t10, t11, hz, w1, o1⟩
          by_cases hlj : j < xs.length
          · have h1 := nat_lt hlj
            have h2 := wrap_succ (i := j) (by omega)
            have h3 : (0 : Int) ≤ (j : Int) := by omega
            obtain ⟨x, hx⟩ := get_some hlj
            have k1' : cellA W0 m3 ⟨gs, j, none⟩ = some (.int .i64 x) := by rw [(own_facts w1).1 j (by simpa [R.i64] using hlj), i64_get, hx]; rfl
            rw [drop_step hx, List.any_cons] at hz
            clear hx
            by_cases hb : 200 < x
            · rw [decide_eq_true hb, Bool.true_or] at hz
              have hff := frE_far (k := s.mods) (v := 0) h32 hbn (by rw [show spansOf 0 s.f0.l = xs from hxs]; exact hz.symm)
              have e := hC (by rw [hff]; decide)
              rw [hff] at e
              replace h : ∀ m', Ext m m' → K (tup3 (checkE s)) m' := h
              rw [e] at h
              clear e hff hz hC he0 he1
              repeat' (first | simp (maxSteps := 2000000) only [vcCore, vcPlain, yieldT, Int.reduceEq, Int.reduceLT, Int.reduceLE, Int.reduceNe, ↓reduceIte, Nat.reduceEqDiff, Nat.reduceAdd, Nat.reduceLeDiff, Nat.reduceBEq, Value.cells, reduceCtorEq, tyAllRW08i, then_normal, Int.reduceBEq, Int.reduceBNe, Nat.reduceMul, Nat.reduceDiv, Int.reduceToNat, Int.reduceNeg, Int.reduceAdd, Int.reduceSub, Int.reduceMul, Nat.reduceSub, Nat.reduceLT, implies_true, imp_self, cvCore, *, Nat.mul_one] | ((with_reducible refine CodeA.id ?_); (first | fail)) | ((with_reducible refine And.intro ?_ ?_); (focus omega)) | with_reducible refine cK_both _ _ _ _ _ _ (fun hc => ?_) (fun hc => ?_) | ((with_reducible refine gO_both _ _ (fun hc => ?_) (fun hc => ?_)) <;> (try simp only [Bool.not_true, Bool.not_false] at hc)) | ((with_reducible refine gH_both _ _ (fun hc => ?_) (fun hc => ?_)) <;> (try simp only [Bool.not_true, Bool.not_false] at hc)) | with_reducible refine pickK_both _ (fun hc => ?_) (fun hc => ?_))
            · rw [decide_eq_false hb, Bool.false_or] at hz
              replace hz : Hid _ := hz
              repeat' (first | simp (maxSteps := 2000000) only [vcCore, vcPlain, yieldT, Int.reduceEq, Int.reduceLT, Int.reduceLE, Int.reduceNe, ↓reduceIte, Nat.reduceEqDiff, Nat.reduceAdd, Nat.reduceLeDiff, Nat.reduceBEq, Value.cells, reduceCtorEq, tyAllRW08i, then_normal, Int.reduceBEq, Int.reduceBNe, Nat.reduceMul, Nat.reduceDiv, Int.reduceToNat, Int.reduceNeg, Int.reduceAdd, Int.reduceSub, Int.reduceMul, Nat.reduceSub, Nat.reduceLT, implies_true, imp_self, cvCore, *, Nat.mul_one] | ((with_reducible refine CodeA.id ?_); (first | fail)) | ((with_reducible refine And.intro ?_ ?_); (focus omega)) | with_reducible refine cK_both _ _ _ _ _ _ (fun hc => ?_) (fun hc => ?_) | ((with_reducible refine gO_both _ _ (fun hc => ?_) (fun hc => ?_)) <;> (try simp only [Bool.not_true, Bool.not_false] at hc)) | ((with_reducible refine gH_both _ _ (fun hc => ?_) (fun hc => ?_)) <;> (try simp only [Bool.not_true, Bool.not_false] at hc)) | with_reducible refine pickK_both _ (fun hc => ?_) (fun hc => ?_))
              exact ⟨xs.length - (j + 1), by omega, X, j + 1, by omega, rfl, t0, t3, t7, t10, rfl, hz, w1, o1⟩
          · have h1 := nat_not_lt hlj
            rw [List.drop_eq_nil_of_le (by omega)] at hz
            have hfo := frE_ok (k := s.mods) (v := 0) h32 hbn (by rw [show spansOf 0 s.f0.l = xs from hxs]; exact hz.symm)
            have hf2 : (frE s.f0.l s.mods 0).2 = 0 := by rw [hfo]
            replace hf2 : Hid _ := hf2
            clear hz hfo
            repeat' (first | simp (maxSteps := 2000000) only [vcCore, vcPlain, yieldT, Int.reduceEq, Int.reduceLT, Int.reduceLE, Int.reduceNe, ↓reduceIte, Nat.reduceEqDiff, Nat.reduceAdd, Nat.reduceLeDiff, Nat.reduceBEq, Value.cells, reduceCtorEq, tyAllRW08i, then_normal, Int.reduceBEq, Int.reduceBNe, Nat.reduceMul, Nat.reduceDiv, Int.reduceToNat, Int.reduceNeg, Int.reduceAdd, Int.reduceSub, Int.reduceMul, Nat.reduceSub, Nat.reduceLT, implies_true, imp_self, cvCore, *] | ((with_reducible refine CodeA.id ?_); (first | fail)) | ((with_reducible refine And.intro ?_ ?_); (focus omega)) | with_reducible refine cK_both _ _ _ _ _ _ (fun hc => ?_) (fun hc => ?_) | ((with_reducible refine gO_both _ _ (fun hc => ?_) (fun hc => ?_)) <;> (try simp only [Bool.not_true, Bool.not_false] at hc)) | ((with_reducible refine gH_both _ _ (fun hc => ?_) (fun hc => ?_)) <;> (try simp only [Bool.not_true, Bool.not_false] at hc)) | with_reducible refine pickK_both _ (fun hc => ?_) (fun hc => ?_))
            exact ⟨1, by omega, X, 1, by omega, by omega, rfl, t0, t3, rfl, fun _ => hf2, (show 2 ≤ (1 : Int) → _ from by omega), o1⟩
    · have hz0 : (frE s.f0.l s.mods 0).2 = 0 := (show 1 ≤ (1 : Int) → (frE s.f0.l s.mods 0).2 = 0 from he0) (by omega)
      have hC := (show (frE s.f0.l s.mods 0).2 = 0 → (frE s.f1.l s.mods 1).2 ≠ 0 → checkE s = (1, (frE s.f1.l s.mods 1).1, (frE s.f1.l s.mods 1).2) from hc1) hz0
      replace hC : Hid _ := hC
      replace hz0 : Hid _ := hz0
      by_cases h32 : 32 < s.f1.l.length
      · have h32' : (32 : Int) < (s.f1.l.length : Int) := by omega
        have e := hC (by rw [frE_many h32]; decide)
        rw [frE_many h32] at e
        replace h : ∀ m', Ext m m' → K (tup3 (checkE s)) m' := h
        rw [e] at h
        clear e h32 hC he0 he1
        repeat' (first | simp (maxSteps := 2000000) only [vcCore, vcPlain, yieldT, Int.reduceEq, Int.reduceLT, Int.reduceLE, Int.reduceNe, ↓reduceIte, Nat.reduceEqDiff, Nat.reduceAdd, Nat.reduceLeDiff, Nat.reduceBEq, Value.cells, reduceCtorEq, tyAllRW08i, then_normal, Int.reduceBEq, Int.reduceBNe, Nat.reduceMul, Nat.reduceDiv, Int.reduceToNat, Int.reduceNeg, Int.reduceAdd, Int.reduceSub, Int.reduceMul, Nat.reduceSub, Nat.reduceLT, implies_true, imp_self, cvCore, *] | ((with_reducible refine CodeA.id ?_); (first | fail)) | ((with_reducible refine And.intro ?_ ?_); (focus omega)) | with_reducible refine cK_both _ _ _ _ _ _ (fun hc => ?_) (fun hc => ?_) | ((with_reducible refine gO_both _ _ (fun hc => ?_) (fun hc => ?_)) <;> (try simp only [Bool.not_true, Bool.not_false] at hc)) | ((with_reducible refine gH_both _ _ (fun hc => ?_) (fun hc => ?_)) <;> (try simp only [Bool.not_true, Bool.not_false] at hc)) | with_reducible refine pickK_both _ (fun hc => ?_) (fun hc => ?_))
      · have h32' : ¬ (32 : Int) < (s.f1.l.length : Int) := by omega
        replace h32 : Hid _ := h32
        repeat' (first | simp (maxSteps := 2000000) only [vcCore, vcPlain, yieldT, Int.reduceEq, Int.reduceLT, Int.reduceLE, Int.reduceNe, ↓reduceIte, Nat.reduceEqDiff, Nat.reduceAdd, Nat.reduceLeDiff, Nat.reduceBEq, Value.cells, reduceCtorEq, tyAllRW08i, then_normal, Int.reduceBEq, Int.reduceBNe, Nat.reduceMul, Nat.reduceDiv, Int.reduceToNat, Int.reduceNeg, Int.reduceAdd, Int.reduceSub, Int.reduceMul, Nat.reduceSub, Nat.reduceLT, implies_true, imp_self, cvCore, *] | ((with_reducible refine CodeA.id ?_); (first | fail)) | ((with_reducible refine And.intro ?_ ?_); (focus omega)) | with_reducible refine cK_both _ _ _ _ _ _ (fun hc => ?_) (fun hc => ?_) | ((with_reducible refine gO_both _ _ (fun hc => ?_) (fun hc => ?_)) <;> (try simp only [Bool.not_true, Bool.not_false] at hc)) | ((with_reducible refine gH_both _ _ (fun hc => ?_) (fun hc => ?_)) <;> (try simp only [Bool.not_true, Bool.not_false] at hc)) | with_reducible refine pickK_both _ (fun hc => ?_) (fun hc => ?_))
        refine loop_rule (fun d t m2 => Ext m m2 ∧ ∃ i : Nat, i ≤ s.f1.l.length ∧ d = s.f1.l.length - i ∧ t 0 = .int .i64 s.mods ∧ t 3 = .pointer (some ⟨b1, 0, none⟩) ∧ t 7 = .int .i64 1 ∧ t 8 = .int .i64 i ∧ badAt s.mods i (s.f1.l.drop i) = badAt s.mods 0 s.f1.l ∧
            m2 b1 = some (.cells #[.slice A0 s.f0.l.length y0, .slice A1 s.f1.l.length y1] 100))
          s.f1.l.length (by kernel_rfl) ⟨X, 0, by omega, by omega, t0, t3, t7, rfl, rfl, o1⟩ ?_
        clear X t0 t3 t7 o1 cb1
        rintro d t m2 ⟨X, i, hi, rfl, t0, t3, t7, t8, hbd, o1⟩
        have cb1 := blk_facts hb1 o1
        by_cases hlt : i < s.f1.l.length
        · have h1 := nat_lt hlt
          have h2 := wrap_succ (i := i) (by omega)
          have h3 : (0 : Int) ≤ (i : Int) := by omega
          obtain ⟨w, hw⟩ := get_some hlt
          obtain ⟨a, ha, hca, _, hok⟩ := (k1 _ X).at (w := w) hw
          replace ha : A1 = some a := ha
          rw [drop_step hw, badAt] at hbd
          have cb2 : ∀ j, cellA W0 m2 ⟨b1, j, none⟩ = (#[Value.slice A0 s.f0.l.length y0, .slice (some a) s.f1.l.length y1] : Array Value)[j]? := by rw [← show A1 = some a from ha]; exact cb1.1
          clear cb1 hw
          replace ha : Hid _ := ha
          by_cases he : winE w s.mods = 0
          · rw [if_pos he] at hbd
            have he' : (winE w s.mods != 0) = false := by rw [he]; rfl
            replace hbd : Hid _ := hbd
            replace he : Hid _ := he
            repeat' (first | simp (maxSteps := 2000000) only [vcCore, vcPlain, yieldT, Int.reduceEq, Int.reduceLT, Int.reduceLE, Int.reduceNe, ↓reduceIte, Nat.reduceEqDiff, Nat.reduceAdd, Nat.reduceLeDiff, Nat.reduceBEq, Value.cells, reduceCtorEq, tyAllRW08i, then_normal, Int.reduceBEq, Int.reduceBNe, Nat.reduceMul, Nat.reduceDiv, Int.reduceToNat, Int.reduceNeg, Int.reduceAdd, Int.reduceSub, Int.reduceMul, Nat.reduceSub, Nat.reduceLT, implies_true, imp_self, cvCore, *, mul_nat] | ((first | (with_reducible refine Ret.use (ref08_Window (w := w) hok) fun m1 e1 => ?_)); (try replace X := X.trans e1); (try replace w1 := w1.ext e1); (try replace u1 := own_facts w1); (try replace w2 := w2.ext e1); (try replace u2 := own_facts w2); (try replace w3 := w3.ext e1); (try replace u3 := own_facts w3); (try (replace o1 := e1 _ _ o1; replace c1 := blk_facts hb1 o1)); (try (replace o2 := e1 _ _ o2; replace c2 := blk_facts hb2 o2))) | (with_reducible refine Ret.q (fun m1 e1 => ref08_Window (w := w) hok) ?_) | (with_reducible refine Ret.q0 (fun m1 e1 => ref08_Window (w := w) hok) ?_) | ((with_reducible refine CodeA.id ?_); (first | fail)) | ((with_reducible refine And.intro ?_ ?_); (focus omega)) | with_reducible refine cK_both _ _ _ _ _ _ (fun hc => ?_) (fun hc => ?_) | ((with_reducible refine gO_both _ _ (fun hc => ?_) (fun hc => ?_)) <;> (try simp only [Bool.not_true, Bool.not_false] at hc)) | ((with_reducible refine gH_both _ _ (fun hc => ?_) (fun hc => ?_)) <;> (try simp only [Bool.not_true, Bool.not_false] at hc)) | with_reducible refine pickK_both _ (fun hc => ?_) (fun hc => ?_))
            exact ⟨s.f1.l.length - (i + 1), by omega, by assumption, i + 1, by omega, rfl, t0, t3, t7, rfl, hbd, by assumption⟩
          · rw [if_neg he] at hbd
            have he' : (winE w s.mods != 0) = true := bne_yes he
            have hfb := frE_bad (v := 1) h32 hbd.symm
            have e := hC (by rw [hfb]; exact he)
            rw [hfb] at e
            replace h : ∀ m', Ext m m' → K (tup3 (checkE s)) m' := h
            rw [e] at h
            clear e hfb he hbd hC he0 he1
            repeat' (first | simp (maxSteps := 2000000) only [vcCore, vcPlain, yieldT, Int.reduceEq, Int.reduceLT, Int.reduceLE, Int.reduceNe, ↓reduceIte, Nat.reduceEqDiff, Nat.reduceAdd, Nat.reduceLeDiff, Nat.reduceBEq, Value.cells, reduceCtorEq, tyAllRW08i, then_normal, Int.reduceBEq, Int.reduceBNe, Nat.reduceMul, Nat.reduceDiv, Int.reduceToNat, Int.reduceNeg, Int.reduceAdd, Int.reduceSub, Int.reduceMul, Nat.reduceSub, Nat.reduceLT, implies_true, imp_self, cvCore, *, mul_nat] | ((first | (with_reducible refine Ret.use (ref08_Window (w := w) hok) fun m1 e1 => ?_)); (try replace X := X.trans e1); (try replace w1 := w1.ext e1); (try replace u1 := own_facts w1); (try replace w2 := w2.ext e1); (try replace u2 := own_facts w2); (try replace w3 := w3.ext e1); (try replace u3 := own_facts w3); (try (replace o1 := e1 _ _ o1; replace c1 := blk_facts hb1 o1)); (try (replace o2 := e1 _ _ o2; replace c2 := blk_facts hb2 o2))) | (with_reducible refine Ret.q (fun m1 e1 => ref08_Window (w := w) hok) ?_) | (with_reducible refine Ret.q0 (fun m1 e1 => ref08_Window (w := w) hok) ?_) | ((with_reducible refine CodeA.id ?_); (first | fail)) | ((with_reducible refine And.intro ?_ ?_); (focus omega)) | with_reducible refine cK_both _ _ _ _ _ _ (fun hc => ?_) (fun hc => ?_) | ((with_reducible refine gO_both _ _ (fun hc => ?_) (fun hc => ?_)) <;> (try simp only [Bool.not_true, Bool.not_false] at hc)) | ((with_reducible refine gH_both _ _ (fun hc => ?_) (fun hc => ?_)) <;> (try simp only [Bool.not_true, Bool.not_false] at hc)) | with_reducible refine pickK_both _ (fun hc => ?_) (fun hc => ?_))
        · have h1 := nat_not_lt hlt
          rw [List.drop_eq_nil_of_le (by omega)] at hbd
          have hbn : badAt s.mods 0 s.f1.l = none := hbd.symm
          obtain ⟨xs, hxs⟩ : ∃ xs, spansOf 1 s.f1.l = xs := ⟨_, rfl⟩
          have hxl : xs.length ≤ 40 := by
            rw [← hxs]; have := (stR_le (v := 1) (by omega) s.f1.l).1; have h4 : ¬ 32 < s.f1.l.length := h32; simp [spansOf]; omega
          have sp : ∀ M, Ext m M → Mk Try.prog W0 69 #[.slice A1 s.f1.l.length y1, .int .i64 1] M 3 1 xs.length (i64 xs) := fun M e => by
            have := ref08_Spans (W0 := W0) (m := M) (A := A1) (c := y1) (l := s.f1.l) (v := 1) (by omega) (fun M' e' => (k1 _ (e.trans e')).rd) (by have h4 : ¬ 32 < s.f1.l.length := h32; omega)
            rw [hxs] at this; exact this
          replace hbn : Hid _ := hbn
          replace hxs : Hid _ := hxs
          clear hbd hlt
          repeat' (first | simp (maxSteps := 2000000) only [vcCore, vcPlain, yieldT, Int.reduceEq, Int.reduceLT, Int.reduceLE, Int.reduceNe, ↓reduceIte, Nat.reduceEqDiff, Nat.reduceAdd, Nat.reduceLeDiff, Nat.reduceBEq, Value.cells, reduceCtorEq, tyAllRW08i, then_normal, Int.reduceBEq, Int.reduceBNe, Nat.reduceMul, Nat.reduceDiv, Int.reduceToNat, Int.reduceNeg, Int.reduceAdd, Int.reduceSub, Int.reduceMul, Nat.reduceSub, Nat.reduceLT, implies_true, imp_self, cvCore, *] | ((first | ((with_reducible refine CallA.at 69 ?_); first | (have := S2; (with_reducible refine Mk.use (sp _ X) fun A3 q3 m1 S3 => ?_); have e1 := S3.ext; have w3 := S3.own) | (have := S1; (with_reducible refine Mk.use (sp _ X) fun A2 q2 m1 S2 => ?_); have e1 := S2.ext; have w2 := S2.own) | ((with_reducible refine Mk.use (sp _ X) fun A1 q1 m1 S1 => ?_); have e1 := S1.ext; have w1 := S1.own))); (try replace X := X.trans e1); (try replace w1 := w1.ext e1); (try replace u1 := own_facts w1); (try replace w2 := w2.ext e1); (try replace u2 := own_facts w2); (try replace w3 := w3.ext e1); (try replace u3 := own_facts w3); (try (replace o1 := e1 _ _ o1; replace c1 := blk_facts hb1 o1)); (try (replace o2 := e1 _ _ o2; replace c2 := blk_facts hb2 o2))) | ((with_reducible refine CodeA.id ?_); (first | fail)) | ((with_reducible refine And.intro ?_ ?_); (focus omega)) | with_reducible refine cK_both _ _ _ _ _ _ (fun hc => ?_) (fun hc => ?_) | ((with_reducible refine gO_both _ _ (fun hc => ?_) (fun hc => ?_)) <;> (try simp only [Bool.not_true, Bool.not_false] at hc)) | ((with_reducible refine gH_both _ _ (fun hc => ?_) (fun hc => ?_)) <;> (try simp only [Bool.not_true, Bool.not_false] at hc)) | with_reducible refine pickK_both _ (fun hc => ?_) (fun hc => ?_))
          have hx0 : 0 < xs.length := by rw [← show spansOf 1 s.f1.l = xs from hxs]; exact spansOf_pos _ _
          obtain ⟨gs, rfl⟩ := own_head w1 hx0
          refine loop_rule (fun d t m3 => Ext m m3 ∧ ∃ j : Nat, j ≤ xs.length ∧ d = xs.length - j ∧ t 0 = .int .i64 s.mods ∧ t 3 = .pointer (some ⟨b1, 0, none⟩) ∧ t 7 = .int .i64 1 ∧ t 10 = .slice (some ⟨gs, 0, none⟩) xs.length q1 ∧ t 11 = .int .i64 j ∧ (xs.drop j).any (fun x => decide (200 < x)) = xs.any (fun x => decide (200 < x)) ∧
              OwnS W0 m3 3 1 (.slice (some ⟨gs, 0, none⟩) xs.length q1) xs.length (i64 xs) ∧ m3 b1 = some (.cells #[.slice A0 s.f0.l.length y0, .slice A1 s.f1.l.length y1] 100))
            xs.length (by kernel_rfl) ⟨X, 0, by omega, by omega, t0, t3, t7, rfl, rfl, by simp, w1, o1⟩ ?_
          clear X t0 t3 t7 t8 o1 cb1 w1 S1 e1
          rintro d t m3 ⟨X, j, hj, rfl, t0, t3, t7, t10, t11, hz, w1, o1⟩
          by_cases hlj : j < xs.length
          · have h1 := nat_lt hlj
            have h2 := wrap_succ (i := j) (by omega)
            have h3 : (0 : Int) ≤ (j : Int) := by omega
            obtain ⟨x, hx⟩ := get_some hlj
            have k1' : cellA W0 m3 ⟨gs, j, none⟩ = some (.int .i64 x) := by rw [(own_facts w1).1 j (by simpa [R.i64] using hlj), i64_get, hx]; rfl
            rw [drop_step hx, List.any_cons] at hz
            clear hx
            by_cases hb : 200 < x
            · rw [decide_eq_true hb, Bool.true_or] at hz
              have hff := frE_far (k := s.mods) (v := 1) h32 hbn (by rw [show spansOf 1 s.f1.l = xs from hxs]; exact hz.symm)
              have e := hC (by rw [hff]; decide)
              rw [hff] at e
              replace h : ∀ m', Ext m m' → K (tup3 (checkE s)) m' := h
              rw [e] at h
              clear e hff hz hC he0 he1
              repeat' (first | simp (maxSteps := 2000000) only [vcCore, vcPlain, yieldT, Int.reduceEq, Int.reduceLT, Int.reduceLE, Int.reduceNe, ↓reduceIte, Nat.reduceEqDiff, Nat.reduceAdd, Nat.reduceLeDiff, Nat.reduceBEq, Value.cells, reduceCtorEq, tyAllRW08i, then_normal, Int.reduceBEq, Int.reduceBNe, Nat.reduceMul, Nat.reduceDiv, Int.reduceToNat, Int.reduceNeg, Int.reduceAdd, Int.reduceSub, Int.reduceMul, Nat.reduceSub, Nat.reduceLT, implies_true, imp_self, cvCore, *, Nat.mul_one] | ((with_reducible refine CodeA.id ?_); (first | fail)) | ((with_reducible refine And.intro ?_ ?_); (focus omega)) | with_reducible refine cK_both _ _ _ _ _ _ (fun hc => ?_) (fun hc => ?_) | ((with_reducible refine gO_both _ _ (fun hc => ?_) (fun hc => ?_)) <;> (try simp only [Bool.not_true, Bool.not_false] at hc)) | ((with_reducible refine gH_both _ _ (fun hc => ?_) (fun hc => ?_)) <;> (try simp only [Bool.not_true, Bool.not_false] at hc)) | with_reducible refine pickK_both _ (fun hc => ?_) (fun hc => ?_))
            · rw [decide_eq_false hb, Bool.false_or] at hz
              replace hz : Hid _ := hz
              repeat' (first | simp (maxSteps := 2000000) only [vcCore, vcPlain, yieldT, Int.reduceEq, Int.reduceLT, Int.reduceLE, Int.reduceNe, ↓reduceIte, Nat.reduceEqDiff, Nat.reduceAdd, Nat.reduceLeDiff, Nat.reduceBEq, Value.cells, reduceCtorEq, tyAllRW08i, then_normal, Int.reduceBEq, Int.reduceBNe, Nat.reduceMul, Nat.reduceDiv, Int.reduceToNat, Int.reduceNeg, Int.reduceAdd, Int.reduceSub, Int.reduceMul, Nat.reduceSub, Nat.reduceLT, implies_true, imp_self, cvCore, *, Nat.mul_one] | ((with_reducible refine CodeA.id ?_); (first | fail)) | ((with_reducible refine And.intro ?_ ?_); (focus omega)) | with_reducible refine cK_both _ _ _ _ _ _ (fun hc => ?_) (fun hc => ?_) | ((with_reducible refine gO_both _ _ (fun hc => ?_) (fun hc => ?_)) <;> (try simp only [Bool.not_true, Bool.not_false] at hc)) | ((with_reducible refine gH_both _ _ (fun hc => ?_) (fun hc => ?_)) <;> (try simp only [Bool.not_true, Bool.not_false] at hc)) | with_reducible refine pickK_both _ (fun hc => ?_) (fun hc => ?_))
              exact ⟨xs.length - (j + 1), by omega, X, j + 1, by omega, rfl, t0, t3, t7, t10, rfl, hz, w1, o1⟩
          · have h1 := nat_not_lt hlj
            rw [List.drop_eq_nil_of_le (by omega)] at hz
            have hfo := frE_ok (k := s.mods) (v := 1) h32 hbn (by rw [show spansOf 1 s.f1.l = xs from hxs]; exact hz.symm)
            have hf2 : (frE s.f1.l s.mods 1).2 = 0 := by rw [hfo]
            replace hf2 : Hid _ := hf2
            clear hz hfo
            repeat' (first | simp (maxSteps := 2000000) only [vcCore, vcPlain, yieldT, Int.reduceEq, Int.reduceLT, Int.reduceLE, Int.reduceNe, ↓reduceIte, Nat.reduceEqDiff, Nat.reduceAdd, Nat.reduceLeDiff, Nat.reduceBEq, Value.cells, reduceCtorEq, tyAllRW08i, then_normal, Int.reduceBEq, Int.reduceBNe, Nat.reduceMul, Nat.reduceDiv, Int.reduceToNat, Int.reduceNeg, Int.reduceAdd, Int.reduceSub, Int.reduceMul, Nat.reduceSub, Nat.reduceLT, implies_true, imp_self, cvCore, *] | ((with_reducible refine CodeA.id ?_); (first | fail)) | ((with_reducible refine And.intro ?_ ?_); (focus omega)) | with_reducible refine cK_both _ _ _ _ _ _ (fun hc => ?_) (fun hc => ?_) | ((with_reducible refine gO_both _ _ (fun hc => ?_) (fun hc => ?_)) <;> (try simp only [Bool.not_true, Bool.not_false] at hc)) | ((with_reducible refine gH_both _ _ (fun hc => ?_) (fun hc => ?_)) <;> (try simp only [Bool.not_true, Bool.not_false] at hc)) | with_reducible refine pickK_both _ (fun hc => ?_) (fun hc => ?_))
            exact ⟨0, by omega, X, 2, by omega, by omega, by omega, t0, t3, rfl, fun _ => hz0, fun _ => hf2, o1⟩
    · have hz0 := (show 1 ≤ (2 : Int) → (frE s.f0.l s.mods 0).2 = 0 from he0) (by omega)
      have hz1 := (show 2 ≤ (2 : Int) → (frE s.f1.l s.mods 1).2 = 0 from he1) (by omega)
      have e := (show (frE s.f0.l s.mods 0).2 = 0 → (frE s.f1.l s.mods 1).2 = 0 → checkE s = (0, 0, 0) from hc2) hz0 hz1
      replace h : ∀ m', Ext m m' → K (tup3 (checkE s)) m' := h
      rw [e] at h
      clear e hz0 hz1
      repeat' (first | simp (maxSteps := 2000000) only [vcCore, vcPlain, yieldT, Int.reduceEq, Int.reduceLT, Int.reduceLE, Int.reduceNe, ↓reduceIte, Nat.reduceEqDiff, Nat.reduceAdd, Nat.reduceLeDiff, Nat.reduceBEq, Value.cells, reduceCtorEq, tyAllRW08i, then_normal, Int.reduceBEq, Int.reduceBNe, Nat.reduceMul, Nat.reduceDiv, Int.reduceToNat, Int.reduceNeg, Int.reduceAdd, Int.reduceSub, Int.reduceMul, Nat.reduceSub, Nat.reduceLT, implies_true, imp_self, cvCore, *] | ((with_reducible refine CodeA.id ?_); (first | fail)) | ((with_reducible refine And.intro ?_ ?_); (focus omega)) | with_reducible refine cK_both _ _ _ _ _ _ (fun hc => ?_) (fun hc => ?_) | ((with_reducible refine gO_both _ _ (fun hc => ?_) (fun hc => ?_)) <;> (try simp only [Bool.not_true, Bool.not_false] at hc)) | ((with_reducible refine gH_both _ _ (fun hc => ?_) (fun hc => ?_)) <;> (try simp only [Bool.not_true, Bool.not_false] at hc)) | with_reducible refine pickK_both _ (fun hc => ?_) (fun hc => ?_))
end
end Go.Proofs.Ytcddhbhdpleppaa.R
/- What may be (valid): the plain facts of a schedule whose Check is 0. No conditions. -/
set_option linter.unusedVariables false
set_option linter.unusedSimpArgs false
namespace Go.Proofs.Ytcddhbhdpleppaa.R
open Go Go.RowKit Go.Proofs.Ytcddhbhdpleppaa
set_option maxRecDepth 100000
set_option maxHeartbeats 8000000
section
theorem badAt_none {k : Int} : ∀ (l : List WinV) (i : Nat), badAt k i l = none → ∀ w ∈ l, winE w k = 0
  | [], _, _, w, hw => by simp at hw
  | x :: l, i, h, w, hw => by
    unfold badAt at h
    split at h
    · rename_i hx
      rcases List.mem_cons.1 hw with rfl | hw
      · exact hx
      · exact badAt_none l _ h w hw
    · cases h
theorem badAt_some {k : Int} : ∀ (l : List WinV) (i j : Nat) (e : Int), badAt k i l = some (j, e) → e ≠ 0
  | [], _, _, _, h => by simp [badAt] at h
  | x :: l, i, j, e, h => by
    unfold badAt at h
    split at h
    · exact badAt_some l _ _ _ h
    · rename_i hx
      injection h with h
      injection h with h1 h2
      rw [← h2]; exact hx
/-- A frame that may be. -/
structure FrOk (l : List WinV) (k v : Int) : Prop where
  len : l.length ≤ 32
  win : ∀ w ∈ l, winE w k = 0
  span : ∀ x ∈ spansOf v l, x ≤ 200
theorem frE_zero {l : List WinV} {k v : Int} (h : (frE l k v).2 = 0) : FrOk l k v := by
  unfold frE at h
  split at h
  · simp at h
  · rename_i hl
    split at h
    · rename_i i e hb
      exact absurd h (badAt_some _ _ _ _ hb)
    · rename_i hb
      split at h
      · simp at h
      · rename_i hm
        refine ⟨by omega, badAt_none _ _ hb, fun x hx => ?_⟩
        have := mt (maxL_any (spansOf_pos v l)).2 hm
        simp only [List.any_eq_true, decide_eq_true_eq, not_exists, not_and] at this
        have := this x hx
        omega
/-- A schedule that may be. -/
structure SchOk (s : SchV) : Prop where
  lo : 2 ≤ s.mods
  hi : s.mods ≤ 16
  f0 : FrOk s.f0.l s.mods 0
  f1 : FrOk s.f1.l s.mods 1
theorem check_ok {s : SchV} (h : (checkE s).2.2 = 0) : SchOk s := by
  unfold checkE at h
  split at h
  · simp at h
  · rename_i hm
    split at h
    · rename_i h0; exact absurd h h0
    · rename_i h0
      split at h
      · rename_i h1; exact absurd h h1
      · rename_i h1
        exact ⟨by omega, by omega, frE_zero (by omega), frE_zero (by omega)⟩
theorem SchOk.fr {s : SchV} (h : SchOk s) {v : Int} (hv : isV v = true) : FrOk (s.fr v).l s.mods v := by
  unfold isV at hv
  simp only [Bool.and_eq_true, decide_eq_true_eq] at hv
  rcases (by omega : v = 0 ∨ v = 1) with rfl | rfl
  · exact h.f0
  · exact h.f1
/-- A message that may be. -/
structure DatOk (w : WinV) (k : Int) : Prop where
  w1 : 1 ≤ w.words
  w8 : w.words ≤ 8
  a0 : 0 ≤ w.addr
  a64 : w.addr + w.words ≤ 64
  f1 : 1 ≤ w.fr.l.length
  f4 : w.fr.l.length ≤ 4
  fin : ∀ y ∈ w.fr.l, 0 ≤ y ∧ y < k
  t1 : 1 ≤ w.to.l.length
  tin : ∀ y ∈ w.to.l, 0 ≤ y ∧ y < k
  fnd : w.fr.l.Nodup
  tnd : w.to.l.Nodup
  tf : ∀ y ∈ w.to.l, y ∉ w.fr.l
theorem namedB_yes {l : List Int} {k : Int} (h : ¬ namedB l k = false) : 1 ≤ l.length ∧ ∀ y ∈ l, 0 ≤ y ∧ y < k := by
  rw [Bool.not_eq_false] at h
  unfold namedB at h
  simp only [Bool.not_eq_true', Bool.or_eq_false_iff, beq_eq_false_iff_ne, List.any_eq_false] at h
  refine ⟨by omega, fun y hy => ?_⟩
  have := h.2 y hy
  unfold outP at this
  simp only [Bool.or_eq_true, decide_eq_true_eq, not_or] at this
  omega
theorem data_ok {w : WinV} {k : Int} (hk : w.kind = 0) (h : winE w k = 0) : DatOk w k := by
  unfold winE at h
  rw [if_pos hk] at h
  unfold dataE at h
  split at h
  · simp at h
  · rename_i h1
    split at h
    · simp at h
    · rename_i h2
      split at h
      · simp at h
      · rename_i h3
        split at h
        · simp at h
        · rename_i h4
          split at h
          · simp at h
          · rename_i h5
            rw [not_or] at h2
            have n1 := namedB_yes h2.2
            have n2 := namedB_yes h4
            rw [Bool.not_eq_true] at h3 h5
            have t1 := (twB_iff _ _).1 h3
            have t2 := (twB_iff _ _).1 h5
            exact ⟨by omega, by omega, by omega, by omega, n1.1, by omega, n1.2, n2.1, n2.2, t1.1, t2.1, t2.2⟩
theorem kind_ok {w : WinV} {k : Int} (h : winE w k = 0) : w.kind = 0 ∨ (w.kind = 1 ∧ 1 ≤ w.bits ∧ w.bits ≤ 100) ∨ w.kind = 2 := by
  unfold winE at h
  split at h
  · left; assumption
  · split at h
    · split at h
      · simp at h
      · right; left; exact ⟨by assumption, by omega, by omega⟩
    · split at h
      · right; right; assumption
      · simp at h
/-- Spans: none is below 1, together they are the frame. -/
theorem step_ok (l : List WinV) : ∀ (o : List Int) (a b : Int), (∀ x ∈ o, 1 ≤ x) → b + 4 ≤ a → o.sum = b - 3 →
    (∀ x ∈ (l.foldl stepR (o, a, b)).1, 1 ≤ x) ∧ (l.foldl stepR (o, a, b)).2.2 + 4 ≤ (l.foldl stepR (o, a, b)).2.1 ∧ (l.foldl stepR (o, a, b)).1.sum = (l.foldl stepR (o, a, b)).2.2 - 3 := by
  induction l with
  | nil => intro o a b h1 h2 h3; exact ⟨h1, h2, h3⟩
  | cons w l ih =>
    intro o a b h1 h2 h3
    rw [List.foldl_cons]
    unfold stepR
    have hl := w.len_le
    split
    · rename_i hk
      have h6 : w.len = 6 := by
        have hk' : w.kind = 2 := hk
        unfold WinV.len
        rw [if_neg (by omega), if_neg (by omega), if_pos hk']
      refine ih _ _ _ (fun x hx => ?_) ?_ ?_
      · rcases List.mem_append.1 hx with hx | hx
        · exact h1 x hx
        · rw [List.mem_singleton] at hx
          rw [hx]
          show 1 ≤ a + 2 - b
          omega
      · show a + 2 + 4 ≤ a + w.len
        omega
      · rw [List.sum_append]
        show o.sum + [a + 2 - b].sum = a + 2 - 3
        simp only [List.sum_cons, List.sum_nil]
        omega
    · refine ih _ _ _ h1 ?_ h3
      show b + 4 ≤ a + w.len
      omega
theorem spans_ok {v : Int} (hv : 0 ≤ v ∧ v < 2) (l : List WinV) : (∀ x ∈ spansOf v l, 1 ≤ x) ∧ 20 * (spansOf v l).sum = startOf v + 120 + sumT l := by
  have h := step_ok l [] (10 + 2 * v) 3 (fun x hx => by simp at hx) (by omega) (by simp)
  have hf := (fold_all v l).2
  unfold spansOf
  unfold stR at *
  refine ⟨fun x hx => ?_, ?_⟩
  · rcases List.mem_append.1 hx with hx | hx
    · exact h.1 x hx
    · rw [List.mem_singleton] at hx
      rw [hx]
      omega
  · rw [List.sum_append]
    simp only [List.sum_cons, List.sum_nil]
    omega
end
end Go.Proofs.Ytcddhbhdpleppaa.R
