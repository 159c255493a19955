/- Layer 31 (load): which places are written how often. No conditions. -/
import Derived.Test.YtcddhbhdpleppaaRZ
import Derived.Test.YtcddhbhdpleppaaSLoadTellsRW31b
set_option linter.unusedVariables false
set_option linter.unusedSimpArgs false
namespace Go.Proofs.Ytcddhbhdpleppaa.R
open Go Go.RowKit Go.Proofs.Ytcddhbhdpleppaa
set_option maxRecDepth 100000
set_option maxHeartbeats 8000000
theorem tyAllRW31c : type_of% (And.intro (And.intro ty_3 (And.intro ty_4 ty_38)) (And.intro ty_55 (And.intro ty_56 ty_154))) := (And.intro (And.intro ty_3 (And.intro ty_4 ty_38)) (And.intro ty_55 (And.intro ty_56 ty_154)))
section
variable {W0 : World}
/-- 64 numbers, by their places. -/
def tabI (f : Nat → Int) : List Int := (List.range 64).map f
theorem tabI_length (f : Nat → Int) : (tabI f).length = 64 := by simp [tabI]
theorem tabI_get (f : Nat → Int) {q : Nat} (h : q < 64) : (tabI f)[q]? = some (f q) := by
  unfold tabI
  rw [List.getElem?_map, List.getElem?_range h]; rfl
theorem tabI_set (f : Nat → Int) {q : Nat} (x : Int) : (tabI f).set q x = tabI (fun a => if a = q then x else f a) := by
  apply List.ext_getElem?
  intro i
  rw [List.getElem?_set]
  by_cases hi : i < 64
  · rw [tabI_get _ hi, tabI_get _ hi]
    by_cases e : q = i
    · subst e; simp [tabI_length, hi]
    · rw [if_neg e]; simp [Ne.symm e]
  · have l1 : (tabI f).length ≤ i := by rw [tabI_length]; omega
    have l2 : (tabI (fun a => if a = q then x else f a)).length ≤ i := by rw [tabI_length]; omega
    rw [List.getElem?_eq_none l1, List.getElem?_eq_none l2]
    split
    · split
      · rename_i h1 h2; rw [tabI_length] at h2; omega
      · rfl
    · rfl
theorem i64_wr1 {l : List Int} {i : Nat} (hi : i < l.length) (x : Int) : wr (i64 l).toArray i [.int .i64 x] = (i64 (l.set i x)).toArray := by
  unfold wr
  rw [show i64 (l.set i x) = (i64 l).set i (.int .i64 x) by simp [i64], List.set_eq_take_append_cons_drop, if_pos (by simpa [i64] using hi)]
  simp
/-- Whether a message writes a place. -/
def inW (w : WinV) (a : Nat) : Bool := decide (w.addr ≤ (a : Int)) && decide ((a : Int) < w.addr + w.words)
def cntW (l : List WinV) (a : Nat) : Int := ((l.filter fun w => w.kind == 0 && inW w a).length : Nat)
theorem cntW_snoc (l : List WinV) (w : WinV) (a : Nat) : cntW (l ++ [w]) a = cntW l a + (if w.kind == 0 && inW w a then 1 else 0) := by
  unfold cntW
  rw [List.filter_append, List.length_append]
  cases h : (w.kind == 0 && inW w a) <;> simp [List.filter_cons, h]
theorem cntW_le (l : List WinV) (a : Nat) : 0 ≤ cntW l a ∧ cntW l a ≤ l.length := by
  unfold cntW
  have := List.length_filter_le (fun w => w.kind == 0 && inW w a) l
  omega
theorem load_writes1 {m : Mem} {w : WinV} {b2 : Nat} {f : Nat → Int} (hb2 : W0.heap.size ≤ b2) (o2 : m b2 = some (.cells (i64 (tabI f)).toArray 154)) (h1 : 0 ≤ w.addr) (h2 : w.addr + w.words ≤ 64) (h3 : 0 ≤ w.words) (hf : ∀ a, 0 ≤ f a ∧ f a ≤ 1000) {K : Value → Mem → Prop}
    (h : ∀ m', m' b2 = some (.cells (i64 (tabI fun a => f a + (if inW w a then 1 else 0))).toArray 154) → Keep m m' (some b2) → K (.int .i64 0) m') :
    CallA Try.prog W0 163 #[.agg #[.int .i64 w.kind, .int .i64 w.bits, .int .i64 w.words, .int .i64 w.addr, .slice w.fr.A w.fr.l.length w.fr.c, .slice w.to.A w.to.l.length w.to.c], .pointer (some ⟨b2, 0, none⟩)] m K := by
  obtain ⟨n, hn⟩ := Int.eq_ofNat_of_zero_le h1
  obtain ⟨c, hc⟩ := Int.eq_ofNat_of_zero_le h3
  have hnc : n + c ≤ 64 := by omega
  have hsw : IntKind.i64.wrap (w.addr + w.words) = ((n + c : Nat) : Int) := by rw [hn, hc, w64 (by omega) (by omega)]; omega
  have hin : (fun a : Nat => f a + (if inW w a then 1 else 0)) = fun a => f a + (if n ≤ a ∧ a < n + c then 1 else 0) := by
    funext a
    congr 1
    unfold inW
    rw [hn, hc]
    by_cases ha : n ≤ a ∧ a < n + c
    · rw [if_pos ha, decide_eq_true (by omega), decide_eq_true (by omega)]; rfl
    · rw [if_neg ha]
      by_cases h0 : n ≤ a
      · rw [decide_eq_false (show ¬ ((a : Int) < (n : Int) + (c : Int)) by omega)]; simp
      · rw [decide_eq_false (show ¬ ((n : Int) ≤ (a : Int)) by omega)]; simp
  rw [hin] at h
  replace h : Hid _ := h
  rw [hn, hc] at hsw
  rw [hn, hc]
  clear hin hn hc h1 h2 h3
  have c2 := blk_facts hb2 o2
  have KP : Keep m m (some b2) := Keep.refl _ _
  refine en_163 (l := [.agg #[.int .i64 w.kind, .int .i64 w.bits, .int .i64 (c : Int), .int .i64 (n : Int), .slice w.fr.A w.fr.l.length w.fr.c, .slice w.to.A w.to.l.length w.to.c], .pointer (some ⟨b2, 0, none⟩)]) (by simp [Try.ntmps163]) ?_
  have X : Ext m m := Ext.refl m
  simp (maxSteps := 2000000) only [Try.f163, Option.getD_some, vcCore, vcPlain, yieldT, Int.reduceEq, Int.reduceLT, Int.reduceLE, Int.reduceNe, ↓reduceIte, Nat.reduceEqDiff, Nat.reduceAdd, Nat.reduceLeDiff, Nat.reduceBEq, Value.cells, reduceCtorEq, tyAllRW31c, then_normal, Int.reduceBEq, Int.reduceBNe, Nat.reduceMul, Nat.reduceDiv, Int.reduceToNat, Int.reduceNeg, Int.reduceAdd, Int.reduceSub, Int.reduceMul, Nat.reduceSub, Nat.reduceLT, implies_true, imp_self, cvCore]
  repeat' (first | simp (maxSteps := 2000000) only [vcCore, vcPlain, yieldT, Int.reduceEq, Int.reduceLT, Int.reduceLE, Int.reduceNe, ↓reduceIte, Nat.reduceEqDiff, Nat.reduceAdd, Nat.reduceLeDiff, Nat.reduceBEq, Value.cells, reduceCtorEq, tyAllRW31c, then_normal, Int.reduceBEq, Int.reduceBNe, Nat.reduceMul, Nat.reduceDiv, Int.reduceToNat, Int.reduceNeg, Int.reduceAdd, Int.reduceSub, Int.reduceMul, Nat.reduceSub, Nat.reduceLT, implies_true, imp_self, cvCore, *] | ((first | ((with_reducible refine newK_init ?_ ?_ ?_ ?_); (focus (intro b; simp only [evCore, reduceCtorEq, Nat.reduceEqDiff, Nat.reduceAdd, ↓reduceIte, Value.cells, tyAllRW31c]; done)); (focus (simp only [evCore, reduceCtorEq, Nat.reduceEqDiff, Nat.reduceAdd, ↓reduceIte, Value.cells, tyAllRW31c]; done)); (focus (intro b; simp only [evCore, reduceCtorEq, Nat.reduceEqDiff, Nat.reduceAdd, ↓reduceIte, Value.cells, tyAllRW31c]; done))) | ((with_reducible refine newK.id ?_); refine newK_intro ?_) | ((with_reducible refine RunA.id ?_); (first | with_reducible refine rbuild1 sl_38 ze_3 ?_ ?_ ?_); (focus (simp only [Value.cells, List.size_toArray, List.length_cons, List.length_nil]; done)); (focus decide)) | ((first | with_reducible refine bG1 sl_38 ze_3 ?_ ?_ ?_); (focus (simp only [Value.cells, List.size_toArray, List.length_cons, List.length_nil]; done)); (focus decide)) | ((with_reducible refine RunA.id ?_); (first | with_reducible refine rbuild2 sl_38 ze_3 rfl rfl ?_)) | (first | with_reducible refine bG2 sl_38 ze_3 rfl rfl ?_)); (first | (have := o2; intro b3 m1 hb3 n3 e1 o3; (try (have d31 := ne_of o1 n3; have d13 := d31.symm)); (try (have d32 := ne_of o2 n3; have d23 := d32.symm)); replace n3 := none_of X n3; (try simp only [evCore, reduceCtorEq, Nat.reduceEqDiff, Nat.reduceAdd, ↓reduceIte, Value.cells, tyAllRW31c] at o3)) | (have := o1; intro b2 m1 hb2 n2 e1 o2; (try (have d21 := ne_of o1 n2; have d12 := d21.symm)); replace n2 := none_of X n2; (try simp only [evCore, reduceCtorEq, Nat.reduceEqDiff, Nat.reduceAdd, ↓reduceIte, Value.cells, tyAllRW31c] at o2)) | (intro b1 m1 hb1 n1 e1 o1; replace n1 := none_of X n1; (try simp only [evCore, reduceCtorEq, Nat.reduceEqDiff, Nat.reduceAdd, ↓reduceIte, Value.cells, tyAllRW31c] at o1))); (try replace X := X.trans e1); (try replace KP := KP.trans (e1.keep _)); (try replace P3 := P3.ext e1); (try (replace o1 := e1 _ _ o1; replace c1 := blk_facts hb1 o1)); (try (replace o2 := e1 _ _ o2; replace c2 := blk_facts hb2 o2)); (try (replace o3 := e1 _ _ o3; replace c3 := blk_facts hb3 o3)); (try have c1 := blk_facts hb1 o1); (try have c2 := blk_facts hb2 o2); (try have c3 := blk_facts hb3 o3)) | ((with_reducible refine CodeA.id ?_); (first | fail)) | ((with_reducible refine And.intro ?_ ?_); (focus omega)) | with_reducible refine cK_both _ _ _ _ _ _ (fun hc => ?_) (fun hc => ?_) | ((with_reducible refine gO_both _ _ (fun hc => ?_) (fun hc => ?_)) <;> (try simp only [Bool.not_true, Bool.not_false] at hc)) | ((with_reducible refine gH_both _ _ (fun hc => ?_) (fun hc => ?_)) <;> (try simp only [Bool.not_true, Bool.not_false] at hc)) | with_reducible refine pickK_both _ (fun hc => ?_) (fun hc => ?_))
  have hz : (fun a : Nat => f a + (if n ≤ a ∧ a < n + 0 then 1 else 0)) = f := by
    funext a
    rw [if_neg (by omega), Int.add_zero]
  refine loop_rule (fun d t m' => Keep m m' (some b2) ∧ ∃ j : Nat, j ≤ c ∧ d = c - j ∧ t 1 = .pointer (some ⟨b2, 0, none⟩) ∧ t 2 = .pointer (some ⟨b3, 0, none⟩) ∧ t 4 = .int .i64 ((n + j : Nat) : Int) ∧ m' b3 = some (.cells #[.int .i64 w.kind, .int .i64 w.bits, .int .i64 (c : Int), .int .i64 (n : Int), .slice w.fr.A w.fr.l.length w.fr.c, .slice w.to.A w.to.l.length w.to.c] 56) ∧
      m' b2 = some (.cells (i64 (tabI fun a => f a + (if n ≤ a ∧ a < n + j then 1 else 0))).toArray 154))
    c (by kernel_rfl) ⟨KP, 0, by omega, by omega, rfl, rfl, by rw [Nat.add_zero]; rfl, o3, by rw [hz]; exact o2⟩ ?_
  clear X o2 c2 o3 c3 KP hz n3
  rintro d t m' ⟨kp, j, hj, rfl, t1, t2, t4, o3, o2⟩
  have kph : Hid (Keep m m' (some b2)) := kp
  clear kp
  have X := Ext.refl m'
  have c2 := blk_facts hb2 o2
  have c3 := blk_facts hb3 o3
  by_cases hlt : j < c
  · have g1 : ((n + j : Nat) : Int) < ((n + c : Nat) : Int) := by omega
    have g2 := wrap_succ (i := n + j) (by omega)
    have g3 : (0 : Int) ≤ ((n + j : Nat) : Int) := by omega
    have g4 : ((n + j : Nat) : Int) < 64 := by omega
    have hy : (i64 (tabI fun a => f a + (if n ≤ a ∧ a < n + j then 1 else 0)))[n + j]? = some (.int .i64 (f (n + j))) := by
      rw [i64_get, tabI_get _ (by omega)]
      show some (Value.int .i64 (f (n + j) + (if n ≤ n + j ∧ n + j < n + j then 1 else 0))) = _
      rw [if_neg (by omega), Int.add_zero]
    have hsz : (i64 (tabI fun a => f a + (if n ≤ a ∧ a < n + j then 1 else 0))).length = 64 := by simp [i64, tabI_length]
    have hww : IntKind.i64.wrap (f (n + j) + 1) = f (n + j) + 1 := by have := hf (n + j); exact w64 (by omega) (by omega)
    have hwr : Hid (wr (i64 (tabI fun a => f a + (if n ≤ a ∧ a < n + j then 1 else 0))).toArray (n + j) [.int .i64 (f (n + j) + 1)] = (i64 (tabI fun a => f a + (if n ≤ a ∧ a < n + (j + 1) then 1 else 0))).toArray) := by
      show _ = _
      rw [i64_wr1 (by rw [tabI_length]; omega), tabI_set]
      congr 3
      funext a
      by_cases e : a = n + j
      · subst e; rw [if_pos rfl, if_pos (by omega)]
      · rw [if_neg e]
        congr 1
        by_cases e2 : n ≤ a ∧ a < n + j
        · rw [if_pos e2, if_pos (by omega)]
        · rw [if_neg e2, if_neg (by omega)]
    have KP : Keep m' m' (some b2) := Keep.refl _ _
    generalize hT : tabI (fun a => f a + (if n ≤ a ∧ a < n + j then 1 else 0)) = T at *
    clear hT
    repeat' (first | simp (maxSteps := 2000000) only [vcCore, vcPlain, yieldT, Int.reduceEq, Int.reduceLT, Int.reduceLE, Int.reduceNe, ↓reduceIte, Nat.reduceEqDiff, Nat.reduceAdd, Nat.reduceLeDiff, Nat.reduceBEq, Value.cells, reduceCtorEq, tyAllRW31c, then_normal, Int.reduceBEq, Int.reduceBNe, Nat.reduceMul, Nat.reduceDiv, Int.reduceToNat, Int.reduceNeg, Int.reduceAdd, Int.reduceSub, Int.reduceMul, Nat.reduceSub, Nat.reduceLT, implies_true, imp_self, cvCore, *] | (rw [mset_eq b1]; generalize hM : mset _ b1 _ = mS; (try replace X := set_X hM X n1); (first | replace KP := KP_self hM KP | replace KP := KP_set hM KP n1 | skip); (try (replace o2 := set_o hM o2 d21; replace c2 := blk_facts hb2 o2)); (try (replace o3 := set_o hM o3 d31; replace c3 := blk_facts hb3 o3)); replace o1 := set_same hM; clear hM; replace c1 := blk_facts hb1 o1) | (rw [mset_eq b2]; generalize hM : mset _ b2 _ = mS; (try replace X := set_X hM X n2); (first | replace KP := KP_self hM KP | replace KP := KP_set hM KP n2 | skip); (try (replace o1 := set_o hM o1 d12; replace c1 := blk_facts hb1 o1)); (try (replace o3 := set_o hM o3 d32; replace c3 := blk_facts hb3 o3)); replace o2 := set_same hM; clear hM; replace c2 := blk_facts hb2 o2) | (rw [mset_eq b3]; generalize hM : mset _ b3 _ = mS; (try replace X := set_X hM X n3); (first | replace KP := KP_self hM KP | replace KP := KP_set hM KP n3 | skip); (try (replace o1 := set_o hM o1 d13; replace c1 := blk_facts hb1 o1)); (try (replace o2 := set_o hM o2 d23; replace c2 := blk_facts hb2 o2)); replace o3 := set_same hM; clear hM; replace c3 := blk_facts hb3 o3) | ((with_reducible refine CodeA.id ?_); (first | fail)) | ((with_reducible refine And.intro ?_ ?_); (focus omega)) | with_reducible refine cK_both _ _ _ _ _ _ (fun hc => ?_) (fun hc => ?_) | ((with_reducible refine gO_both _ _ (fun hc => ?_) (fun hc => ?_)) <;> (try simp only [Bool.not_true, Bool.not_false] at hc)) | ((with_reducible refine gH_both _ _ (fun hc => ?_) (fun hc => ?_)) <;> (try simp only [Bool.not_true, Bool.not_false] at hc)) | with_reducible refine pickK_both _ (fun hc => ?_) (fun hc => ?_))
    exact ⟨c - (j + 1), by omega, (show Keep m m' (some b2) from kph).trans KP, j + 1, by omega, rfl, t1, t2, rfl, o3, o2.trans (congrArg (fun z => some (Obj.cells z 154 (0, 0))) (show wr (i64 T).toArray (n + j) [.int .i64 (f (n + j) + 1)] = _ from hwr))⟩
  · have g1 : ¬ ((n + j : Nat) : Int) < ((n + c : Nat) : Int) := by omega
    obtain rfl : j = c := by omega
    repeat' (first | simp (maxSteps := 2000000) only [vcCore, vcPlain, yieldT, Int.reduceEq, Int.reduceLT, Int.reduceLE, Int.reduceNe, ↓reduceIte, Nat.reduceEqDiff, Nat.reduceAdd, Nat.reduceLeDiff, Nat.reduceBEq, Value.cells, reduceCtorEq, tyAllRW31c, then_normal, Int.reduceBEq, Int.reduceBNe, Nat.reduceMul, Nat.reduceDiv, Int.reduceToNat, Int.reduceNeg, Int.reduceAdd, Int.reduceSub, Int.reduceMul, Nat.reduceSub, Nat.reduceLT, implies_true, imp_self, cvCore, *] | ((with_reducible refine CodeA.id ?_); (first | fail)) | ((with_reducible refine And.intro ?_ ?_); (focus omega)) | with_reducible refine cK_both _ _ _ _ _ _ (fun hc => ?_) (fun hc => ?_) | ((with_reducible refine gO_both _ _ (fun hc => ?_) (fun hc => ?_)) <;> (try simp only [Bool.not_true, Bool.not_false] at hc)) | ((with_reducible refine gH_both _ _ (fun hc => ?_) (fun hc => ?_)) <;> (try simp only [Bool.not_true, Bool.not_false] at hc)) | with_reducible refine pickK_both _ (fun hc => ?_) (fun hc => ?_))
    all_goals exact (show ∀ m', m' b2 = some (.cells (i64 (tabI fun a => f a + (if n ≤ a ∧ a < n + j then 1 else 0))).toArray 154) → Keep m m' (some b2) → K (.int .i64 0) m' from h) _ o2 kph
end
end Go.Proofs.Ytcddhbhdpleppaa.R
/- Layer 31 (load): writes, Addrs, Clashes. No conditions. -/
set_option linter.unusedVariables false
set_option linter.unusedSimpArgs false
namespace Go.Proofs.Ytcddhbhdpleppaa.R
open Go Go.RowKit Go.Proofs.Ytcddhbhdpleppaa
set_option maxRecDepth 100000
set_option maxHeartbeats 8000000
theorem tyAllRW31d : type_of% (And.intro (And.intro (And.intro ty_3 ty_4) (And.intro ty_38 (And.intro ty_47 ty_48))) (And.intro (And.intro ty_49 ty_50) (And.intro ty_55 (And.intro ty_56 ty_151)))) := (And.intro (And.intro (And.intro ty_3 ty_4) (And.intro ty_38 (And.intro ty_47 ty_48))) (And.intro (And.intro ty_49 ty_50) (And.intro ty_55 (And.intro ty_56 ty_151))))
section
variable {W0 : World}
abbrev tabV (f : Nat → Int) : Value := .agg (i64 (tabI f)).toArray
theorem load_sumW {m : Mem} {S : SchV} {v : Int} {b2 : Nat} (hb2 : W0.heap.size ≤ b2) (o2 : m b2 = some (.cells (i64 (tabI fun _ => 0)).toArray 154)) (f : ∀ M, Keep m M (some b2) → SchR W0 M S) (hv : isV v = true) (hc : (checkE S).2.2 = 0) {K : Value → Mem → Prop}
    (h : ∀ m', m' b2 = some (.cells (i64 (tabI (cntW (S.fr v).l))).toArray 154) → Keep m m' (some b2) → K (.int .i64 0) m') :
    CallA Try.prog W0 123 #[S.v, .int .i64 v, .func (.func 163) #[] #[.pointer (some ⟨b2, 0, none⟩)]] m K := by
  have rf : ∀ M, Keep m M (some b2) → Ret Try.prog W0 122 #[.agg #[.int .i64 S.mods, .slice S.f0.A S.f0.l.length S.f0.c, .slice S.f1.A S.f1.l.length S.f1.c], .int .i64 v] M (.tuple #[.slice (S.fr v).A (S.fr v).l.length (S.fr v).c, .bool true]) := fun M e => load_frame_ok (f M e) hv hc
  have hW : ∀ M, Keep m M (some b2) → WinsOk W0 M (S.fr v) := fun M e => (f M e).fr_ok v
  have hdat := win_words hv hc
  have h32 := ((check_ok hc).fr hv).len
  clear f hc
  generalize S.fr v = G at *
  obtain ⟨GA, Gc, Gl⟩ := G
  simp only at *
  replace hdat : Hid _ := hdat
  replace hW : Hid _ := hW
  replace hv : Hid _ := hv
  replace h : Hid _ := h
  have c2 := blk_facts hb2 o2
  refine en_123 (l := [S.v, .int .i64 v, .func (.func 163) #[] #[.pointer (some ⟨b2, 0, none⟩)]]) (by simp [Try.ntmps123]) ?_
  have X : Ext m m := Ext.refl m
  simp (maxSteps := 2000000) only [Try.f123, Option.getD_some, vcCore, vcPlain, yieldT, Int.reduceEq, Int.reduceLT, Int.reduceLE, Int.reduceNe, ↓reduceIte, Nat.reduceEqDiff, Nat.reduceAdd, Nat.reduceLeDiff, Nat.reduceBEq, Value.cells, reduceCtorEq, tyAllRW31d, then_normal, Int.reduceBEq, Int.reduceBNe, Nat.reduceMul, Nat.reduceDiv, Int.reduceToNat, Int.reduceNeg, Int.reduceAdd, Int.reduceSub, Int.reduceMul, Nat.reduceSub, Nat.reduceLT, implies_true, imp_self, cvCore, SchV.v]
  repeat' (first | simp (maxSteps := 2000000) only [vcCore, vcPlain, yieldT, Int.reduceEq, Int.reduceLT, Int.reduceLE, Int.reduceNe, ↓reduceIte, Nat.reduceEqDiff, Nat.reduceAdd, Nat.reduceLeDiff, Nat.reduceBEq, Value.cells, reduceCtorEq, tyAllRW31d, then_normal, Int.reduceBEq, Int.reduceBNe, Nat.reduceMul, Nat.reduceDiv, Int.reduceToNat, Int.reduceNeg, Int.reduceAdd, Int.reduceSub, Int.reduceMul, Nat.reduceSub, Nat.reduceLT, implies_true, imp_self, cvCore, *] | ((first | (with_reducible refine Ret.use (rf _ (Ext.keep X _)) fun m1 e1 => ?_)); (try replace X := X.trans e1); (try replace w1 := w1.ext e1); (try replace u1 := own_facts w1); (try replace w2 := w2.ext e1); (try replace u2 := own_facts w2); (try replace w3 := w3.ext e1); (try replace u3 := own_facts w3); (try (replace o1 := e1 _ _ o1; replace c1 := blk_facts hb1 o1)); (try (replace o2 := e1 _ _ o2; replace c2 := blk_facts hb2 o2)); (try (replace o3 := e1 _ _ o3; replace c3 := blk_facts hb3 o3))) | (with_reducible refine Ret.q (fun m1 e1 => rf _ (Ext.keep (X.trans e1) _)) ?_) | (with_reducible refine Ret.q0 (fun m1 e1 => rf _ (Ext.keep %X _)) ?_) | ((first | ((with_reducible refine newK_init ?_ ?_ ?_ ?_); (focus (intro b; simp only [evCore, reduceCtorEq, Nat.reduceEqDiff, Nat.reduceAdd, ↓reduceIte, Value.cells, tyAllRW31d]; done)); (focus (simp only [evCore, reduceCtorEq, Nat.reduceEqDiff, Nat.reduceAdd, ↓reduceIte, Value.cells, tyAllRW31d]; done)); (focus (intro b; simp only [evCore, reduceCtorEq, Nat.reduceEqDiff, Nat.reduceAdd, ↓reduceIte, Value.cells, tyAllRW31d]; done))) | ((with_reducible refine newK.id ?_); refine newK_intro ?_) | ((with_reducible refine RunA.id ?_); (first | with_reducible refine rbuild1 sl_38 ze_3 ?_ ?_ ?_ | with_reducible refine rbuild1 sl_47 ze_56 ?_ ?_ ?_); (focus (simp only [Value.cells, List.size_toArray, List.length_cons, List.length_nil]; done)); (focus decide)) | ((first | with_reducible refine bG1 sl_38 ze_3 ?_ ?_ ?_ | with_reducible refine bG1 sl_47 ze_56 ?_ ?_ ?_); (focus (simp only [Value.cells, List.size_toArray, List.length_cons, List.length_nil]; done)); (focus decide)) | ((with_reducible refine RunA.id ?_); (first | with_reducible refine rbuild2 sl_38 ze_3 rfl rfl ?_ | with_reducible refine rbuild2 sl_47 ze_56 rfl rfl ?_)) | (first | with_reducible refine bG2 sl_38 ze_3 rfl rfl ?_ | with_reducible refine bG2 sl_47 ze_56 rfl rfl ?_)); (first | (have := o2; intro b3 m1 hb3 n3 e1 o3; (try (have d31 := ne_of o1 n3; have d13 := d31.symm)); (try (have d32 := ne_of o2 n3; have d23 := d32.symm)); replace n3 := none_of X n3; (try simp only [evCore, reduceCtorEq, Nat.reduceEqDiff, Nat.reduceAdd, ↓reduceIte, Value.cells, tyAllRW31d] at o3)) | (have := o1; intro b2 m1 hb2 n2 e1 o2; (try (have d21 := ne_of o1 n2; have d12 := d21.symm)); replace n2 := none_of X n2; (try simp only [evCore, reduceCtorEq, Nat.reduceEqDiff, Nat.reduceAdd, ↓reduceIte, Value.cells, tyAllRW31d] at o2)) | (intro b1 m1 hb1 n1 e1 o1; replace n1 := none_of X n1; (try simp only [evCore, reduceCtorEq, Nat.reduceEqDiff, Nat.reduceAdd, ↓reduceIte, Value.cells, tyAllRW31d] at o1))); (try replace X := X.trans e1); (try replace w1 := w1.ext e1); (try replace u1 := own_facts w1); (try replace w2 := w2.ext e1); (try replace u2 := own_facts w2); (try replace w3 := w3.ext e1); (try replace u3 := own_facts w3); (try (replace o1 := e1 _ _ o1; replace c1 := blk_facts hb1 o1)); (try (replace o2 := e1 _ _ o2; replace c2 := blk_facts hb2 o2)); (try (replace o3 := e1 _ _ o3; replace c3 := blk_facts hb3 o3)); (try have c1 := blk_facts hb1 o1); (try have c2 := blk_facts hb2 o2); (try have c3 := blk_facts hb3 o3)) | ((with_reducible refine And.intro ?_ ?_); (focus omega)) | with_reducible refine cK_both _ _ _ _ _ _ (fun hc => ?_) (fun hc => ?_) | ((with_reducible refine gO_both _ _ (fun hc => ?_) (fun hc => ?_)) <;> (try simp only [Bool.not_true, Bool.not_false] at hc)) | ((with_reducible refine gH_both _ _ (fun hc => ?_) (fun hc => ?_)) <;> (try simp only [Bool.not_true, Bool.not_false] at hc)) | with_reducible refine pickK_both _ (fun hc => ?_) (fun hc => ?_))
  refine loop_rule (fun d t m' => Hid (Keep m m' (some b2)) ∧ ∃ i : Nat, i ≤ Gl.length ∧ d = Gl.length - i ∧ t 2 = .func (.func 163) #[] #[.pointer (some ⟨b2, 0, none⟩)] ∧ t 7 = .int .i64 0 ∧ t 18 = .slice GA Gl.length Gc ∧ t 19 = .int .i64 Gl.length ∧ t 20 = .int .i64 i ∧
      m' b2 = some (.cells (i64 (tabI (cntW (Gl.take i)))).toArray 154)) Gl.length (by kernel_rfl) ⟨X.keep _, 0, by omega, by omega, rfl, rfl, rfl, rfl, rfl, by exact o2⟩ ?_
  clear X o2 c2 o3 c3 n3
  rintro d t m' ⟨kp, i, hi, rfl, t2, t7, t18, t19, t20, o2⟩
  have X := Ext.refl m'
  have c2 := blk_facts hb2 o2
  by_cases hlt : i < Gl.length
  · have h1 := nat_lt hlt
    have h2 := wrap_succ (i := i) (by omega)
    have h3 : (0 : Int) ≤ (i : Int) := by omega
    obtain ⟨w, hw⟩ := get_some hlt
    obtain ⟨ga, rfl, hca, _, _⟩ := ((show ∀ M, Keep m M (some b2) → WinsOk W0 M ⟨GA, Gc, Gl⟩ from hW) m' kp).at hw
    have hm := List.mem_of_getElem? hw
    have hsn := fun a => cntW_snoc (Gl.take i) w a
    rw [← take_step hw] at hsn
    replace hsn : Hid _ := hsn
    replace hw : Hid _ := hw
    by_cases hk : w.kind = 0
    · have hkb := beq_of_eq hk
      have hd := (show ∀ w ∈ Gl, w.kind = 0 → DatOk w S.mods from hdat) w hm hk
      have hda : Hid (0 ≤ w.addr ∧ w.addr + w.words ≤ 64 ∧ 0 ≤ w.words) := ⟨hd.a0, hd.a64, by have := hd.w1; omega⟩
      clear hd hm
      replace hk : Hid _ := hk
      repeat' (first | simp (maxSteps := 2000000) only [vcCore, vcPlain, yieldT, Int.reduceEq, Int.reduceLT, Int.reduceLE, Int.reduceNe, ↓reduceIte, Nat.reduceEqDiff, Nat.reduceAdd, Nat.reduceLeDiff, Nat.reduceBEq, Value.cells, reduceCtorEq, tyAllRW31d, then_normal, Int.reduceBEq, Int.reduceBNe, Nat.reduceMul, Nat.reduceDiv, Int.reduceToNat, Int.reduceNeg, Int.reduceAdd, Int.reduceSub, Int.reduceMul, Nat.reduceSub, Nat.reduceLT, implies_true, imp_self, cvCore, *, Nat.mul_one] | ((first | ((with_reducible refine newK_init ?_ ?_ ?_ ?_); (focus (intro b; simp only [evCore, reduceCtorEq, Nat.reduceEqDiff, Nat.reduceAdd, ↓reduceIte, Value.cells, tyAllRW31d]; done)); (focus (simp only [evCore, reduceCtorEq, Nat.reduceEqDiff, Nat.reduceAdd, ↓reduceIte, Value.cells, tyAllRW31d]; done)); (focus (intro b; simp only [evCore, reduceCtorEq, Nat.reduceEqDiff, Nat.reduceAdd, ↓reduceIte, Value.cells, tyAllRW31d]; done))) | ((with_reducible refine newK.id ?_); refine newK_intro ?_) | ((with_reducible refine RunA.id ?_); (first | with_reducible refine rbuild1 sl_38 ze_3 ?_ ?_ ?_ | with_reducible refine rbuild1 sl_47 ze_56 ?_ ?_ ?_); (focus (simp only [Value.cells, List.size_toArray, List.length_cons, List.length_nil]; done)); (focus decide)) | ((first | with_reducible refine bG1 sl_38 ze_3 ?_ ?_ ?_ | with_reducible refine bG1 sl_47 ze_56 ?_ ?_ ?_); (focus (simp only [Value.cells, List.size_toArray, List.length_cons, List.length_nil]; done)); (focus decide)) | ((with_reducible refine RunA.id ?_); (first | with_reducible refine rbuild2 sl_38 ze_3 rfl rfl ?_ | with_reducible refine rbuild2 sl_47 ze_56 rfl rfl ?_)) | (first | with_reducible refine bG2 sl_38 ze_3 rfl rfl ?_ | with_reducible refine bG2 sl_47 ze_56 rfl rfl ?_)); (first | (have := o2; intro b3 m1 hb3 n3 e1 o3; (try (have d31 := ne_of o1 n3; have d13 := d31.symm)); (try (have d32 := ne_of o2 n3; have d23 := d32.symm)); replace n3 := none_of X n3; (try simp only [evCore, reduceCtorEq, Nat.reduceEqDiff, Nat.reduceAdd, ↓reduceIte, Value.cells, tyAllRW31d] at o3)) | (have := o1; intro b2 m1 hb2 n2 e1 o2; (try (have d21 := ne_of o1 n2; have d12 := d21.symm)); replace n2 := none_of X n2; (try simp only [evCore, reduceCtorEq, Nat.reduceEqDiff, Nat.reduceAdd, ↓reduceIte, Value.cells, tyAllRW31d] at o2)) | (intro b1 m1 hb1 n1 e1 o1; replace n1 := none_of X n1; (try simp only [evCore, reduceCtorEq, Nat.reduceEqDiff, Nat.reduceAdd, ↓reduceIte, Value.cells, tyAllRW31d] at o1))); (try replace X := X.trans e1); (try replace w1 := w1.ext e1); (try replace u1 := own_facts w1); (try replace w2 := w2.ext e1); (try replace u2 := own_facts w2); (try replace w3 := w3.ext e1); (try replace u3 := own_facts w3); (try (replace o1 := e1 _ _ o1; replace c1 := blk_facts hb1 o1)); (try (replace o2 := e1 _ _ o2; replace c2 := blk_facts hb2 o2)); (try (replace o3 := e1 _ _ o3; replace c3 := blk_facts hb3 o3)); (try have c1 := blk_facts hb1 o1); (try have c2 := blk_facts hb2 o2); (try have c3 := blk_facts hb3 o3)) | ((with_reducible refine And.intro ?_ ?_); (focus omega)) | with_reducible refine cK_both _ _ _ _ _ _ (fun hc => ?_) (fun hc => ?_) | ((with_reducible refine gO_both _ _ (fun hc => ?_) (fun hc => ?_)) <;> (try simp only [Bool.not_true, Bool.not_false] at hc)) | ((with_reducible refine gH_both _ _ (fun hc => ?_) (fun hc => ?_)) <;> (try simp only [Bool.not_true, Bool.not_false] at hc)) | with_reducible refine pickK_both _ (fun hc => ?_) (fun hc => ?_))
      obtain ⟨da1, da2, da3⟩ := (show 0 ≤ w.addr ∧ w.addr + w.words ≤ 64 ∧ 0 ≤ w.words from hda)
      refine load_writes1 (w := w) hb2 o2 da1 da2 da3 (fun a => ?_) fun m5 o5 k5 => ?_
      · have := cntW_le (Gl.take i) a
        rw [List.length_take] at this
        omega
      · replace o3 := k5 _ _ o3 (by rintro h; cases h; exact d32 rfl)
        have kpn : Hid (Keep m m5 (some b2)) := (((show Keep m m' (some b2) from kp).trans (X.keep _)).trans k5)
        have o2n : Hid (m5 b2 = some (.cells (i64 (tabI (cntW (Gl.take (i + 1))))).toArray 154)) := by
          have e : (fun a : Nat => cntW (Gl.take i) a + (if inW w a then 1 else 0)) = cntW (Gl.take (i + 1)) := by
            funext a
            rw [show cntW (Gl.take (i + 1)) a = _ from (show ∀ a, _ from hsn) a, show w.kind = 0 from hk]
            simp
          rw [e] at o5
          exact o5
        clear o2 c2 o5 X c3 n3 kp k5 da1 da2 da3
        have X := Ext.refl m5
        repeat' (first | simp (maxSteps := 2000000) only [vcCore, vcPlain, yieldT, Int.reduceEq, Int.reduceLT, Int.reduceLE, Int.reduceNe, ↓reduceIte, Nat.reduceEqDiff, Nat.reduceAdd, Nat.reduceLeDiff, Nat.reduceBEq, Value.cells, reduceCtorEq, tyAllRW31d, then_normal, Int.reduceBEq, Int.reduceBNe, Nat.reduceMul, Nat.reduceDiv, Int.reduceToNat, Int.reduceNeg, Int.reduceAdd, Int.reduceSub, Int.reduceMul, Nat.reduceSub, Nat.reduceLT, implies_true, imp_self, cvCore, *, Nat.mul_one] | ((first | ((with_reducible refine newK_init ?_ ?_ ?_ ?_); (focus (intro b; simp only [evCore, reduceCtorEq, Nat.reduceEqDiff, Nat.reduceAdd, ↓reduceIte, Value.cells, tyAllRW31d]; done)); (focus (simp only [evCore, reduceCtorEq, Nat.reduceEqDiff, Nat.reduceAdd, ↓reduceIte, Value.cells, tyAllRW31d]; done)); (focus (intro b; simp only [evCore, reduceCtorEq, Nat.reduceEqDiff, Nat.reduceAdd, ↓reduceIte, Value.cells, tyAllRW31d]; done))) | ((with_reducible refine newK.id ?_); refine newK_intro ?_) | ((with_reducible refine RunA.id ?_); (first | with_reducible refine rbuild1 sl_38 ze_3 ?_ ?_ ?_ | with_reducible refine rbuild1 sl_47 ze_56 ?_ ?_ ?_); (focus (simp only [Value.cells, List.size_toArray, List.length_cons, List.length_nil]; done)); (focus decide)) | ((first | with_reducible refine bG1 sl_38 ze_3 ?_ ?_ ?_ | with_reducible refine bG1 sl_47 ze_56 ?_ ?_ ?_); (focus (simp only [Value.cells, List.size_toArray, List.length_cons, List.length_nil]; done)); (focus decide)) | ((with_reducible refine RunA.id ?_); (first | with_reducible refine rbuild2 sl_38 ze_3 rfl rfl ?_ | with_reducible refine rbuild2 sl_47 ze_56 rfl rfl ?_)) | (first | with_reducible refine bG2 sl_38 ze_3 rfl rfl ?_ | with_reducible refine bG2 sl_47 ze_56 rfl rfl ?_)); (first | (have := o2; intro b3 m1 hb3 n3 e1 o3; (try (have d31 := ne_of o1 n3; have d13 := d31.symm)); (try (have d32 := ne_of o2 n3; have d23 := d32.symm)); replace n3 := none_of X n3; (try simp only [evCore, reduceCtorEq, Nat.reduceEqDiff, Nat.reduceAdd, ↓reduceIte, Value.cells, tyAllRW31d] at o3)) | (have := o1; intro b2 m1 hb2 n2 e1 o2; (try (have d21 := ne_of o1 n2; have d12 := d21.symm)); replace n2 := none_of X n2; (try simp only [evCore, reduceCtorEq, Nat.reduceEqDiff, Nat.reduceAdd, ↓reduceIte, Value.cells, tyAllRW31d] at o2)) | (intro b1 m1 hb1 n1 e1 o1; replace n1 := none_of X n1; (try simp only [evCore, reduceCtorEq, Nat.reduceEqDiff, Nat.reduceAdd, ↓reduceIte, Value.cells, tyAllRW31d] at o1))); (try replace X := X.trans e1); (try replace w1 := w1.ext e1); (try replace u1 := own_facts w1); (try replace w2 := w2.ext e1); (try replace u2 := own_facts w2); (try replace w3 := w3.ext e1); (try replace u3 := own_facts w3); (try (replace o1 := e1 _ _ o1; replace c1 := blk_facts hb1 o1)); (try (replace o2 := e1 _ _ o2; replace c2 := blk_facts hb2 o2)); (try (replace o3 := e1 _ _ o3; replace c3 := blk_facts hb3 o3)); (try have c1 := blk_facts hb1 o1); (try have c2 := blk_facts hb2 o2); (try have c3 := blk_facts hb3 o3)) | ((with_reducible refine And.intro ?_ ?_); (focus omega)) | with_reducible refine cK_both _ _ _ _ _ _ (fun hc => ?_) (fun hc => ?_) | ((with_reducible refine gO_both _ _ (fun hc => ?_) (fun hc => ?_)) <;> (try simp only [Bool.not_true, Bool.not_false] at hc)) | ((with_reducible refine gH_both _ _ (fun hc => ?_) (fun hc => ?_)) <;> (try simp only [Bool.not_true, Bool.not_false] at hc)) | with_reducible refine pickK_both _ (fun hc => ?_) (fun hc => ?_))
        exact ⟨Gl.length - (i + 1), by omega, kpn, i + 1, by omega, rfl, t2, rfl, t18, t19, rfl, o2n⟩
    · have hkb := beq_no hk
      have e : cntW (Gl.take (i + 1)) = cntW (Gl.take i) := by
        funext a
        rw [show cntW (Gl.take (i + 1)) a = _ from (show ∀ a, _ from hsn) a, hkb]
        simp
      replace e : Hid _ := e
      clear hk
      repeat' (first | simp (maxSteps := 2000000) only [vcCore, vcPlain, yieldT, Int.reduceEq, Int.reduceLT, Int.reduceLE, Int.reduceNe, ↓reduceIte, Nat.reduceEqDiff, Nat.reduceAdd, Nat.reduceLeDiff, Nat.reduceBEq, Value.cells, reduceCtorEq, tyAllRW31d, then_normal, Int.reduceBEq, Int.reduceBNe, Nat.reduceMul, Nat.reduceDiv, Int.reduceToNat, Int.reduceNeg, Int.reduceAdd, Int.reduceSub, Int.reduceMul, Nat.reduceSub, Nat.reduceLT, implies_true, imp_self, cvCore, *, Nat.mul_one] | ((first | ((with_reducible refine newK_init ?_ ?_ ?_ ?_); (focus (intro b; simp only [evCore, reduceCtorEq, Nat.reduceEqDiff, Nat.reduceAdd, ↓reduceIte, Value.cells, tyAllRW31d]; done)); (focus (simp only [evCore, reduceCtorEq, Nat.reduceEqDiff, Nat.reduceAdd, ↓reduceIte, Value.cells, tyAllRW31d]; done)); (focus (intro b; simp only [evCore, reduceCtorEq, Nat.reduceEqDiff, Nat.reduceAdd, ↓reduceIte, Value.cells, tyAllRW31d]; done))) | ((with_reducible refine newK.id ?_); refine newK_intro ?_) | ((with_reducible refine RunA.id ?_); (first | with_reducible refine rbuild1 sl_38 ze_3 ?_ ?_ ?_ | with_reducible refine rbuild1 sl_47 ze_56 ?_ ?_ ?_); (focus (simp only [Value.cells, List.size_toArray, List.length_cons, List.length_nil]; done)); (focus decide)) | ((first | with_reducible refine bG1 sl_38 ze_3 ?_ ?_ ?_ | with_reducible refine bG1 sl_47 ze_56 ?_ ?_ ?_); (focus (simp only [Value.cells, List.size_toArray, List.length_cons, List.length_nil]; done)); (focus decide)) | ((with_reducible refine RunA.id ?_); (first | with_reducible refine rbuild2 sl_38 ze_3 rfl rfl ?_ | with_reducible refine rbuild2 sl_47 ze_56 rfl rfl ?_)) | (first | with_reducible refine bG2 sl_38 ze_3 rfl rfl ?_ | with_reducible refine bG2 sl_47 ze_56 rfl rfl ?_)); (first | (have := o2; intro b3 m1 hb3 n3 e1 o3; (try (have d31 := ne_of o1 n3; have d13 := d31.symm)); (try (have d32 := ne_of o2 n3; have d23 := d32.symm)); replace n3 := none_of X n3; (try simp only [evCore, reduceCtorEq, Nat.reduceEqDiff, Nat.reduceAdd, ↓reduceIte, Value.cells, tyAllRW31d] at o3)) | (have := o1; intro b2 m1 hb2 n2 e1 o2; (try (have d21 := ne_of o1 n2; have d12 := d21.symm)); replace n2 := none_of X n2; (try simp only [evCore, reduceCtorEq, Nat.reduceEqDiff, Nat.reduceAdd, ↓reduceIte, Value.cells, tyAllRW31d] at o2)) | (intro b1 m1 hb1 n1 e1 o1; replace n1 := none_of X n1; (try simp only [evCore, reduceCtorEq, Nat.reduceEqDiff, Nat.reduceAdd, ↓reduceIte, Value.cells, tyAllRW31d] at o1))); (try replace X := X.trans e1); (try replace w1 := w1.ext e1); (try replace u1 := own_facts w1); (try replace w2 := w2.ext e1); (try replace u2 := own_facts w2); (try replace w3 := w3.ext e1); (try replace u3 := own_facts w3); (try (replace o1 := e1 _ _ o1; replace c1 := blk_facts hb1 o1)); (try (replace o2 := e1 _ _ o2; replace c2 := blk_facts hb2 o2)); (try (replace o3 := e1 _ _ o3; replace c3 := blk_facts hb3 o3)); (try have c1 := blk_facts hb1 o1); (try have c2 := blk_facts hb2 o2); (try have c3 := blk_facts hb3 o3)) | ((with_reducible refine And.intro ?_ ?_); (focus omega)) | with_reducible refine cK_both _ _ _ _ _ _ (fun hc => ?_) (fun hc => ?_) | ((with_reducible refine gO_both _ _ (fun hc => ?_) (fun hc => ?_)) <;> (try simp only [Bool.not_true, Bool.not_false] at hc)) | ((with_reducible refine gH_both _ _ (fun hc => ?_) (fun hc => ?_)) <;> (try simp only [Bool.not_true, Bool.not_false] at hc)) | with_reducible refine pickK_both _ (fun hc => ?_) (fun hc => ?_))
      exact ⟨Gl.length - (i + 1), by omega, (show Keep m m' (some b2) from kp).trans (X.keep _), i + 1, by omega, rfl, t2, t7, t18, t19, rfl, by rw [show cntW (Gl.take (i + 1)) = _ from e]; exact o2⟩
  · have h1 := nat_not_lt hlt
    rw [List.take_of_length_le (by omega)] at o2
    repeat' (first | simp (maxSteps := 2000000) only [vcCore, vcPlain, yieldT, Int.reduceEq, Int.reduceLT, Int.reduceLE, Int.reduceNe, ↓reduceIte, Nat.reduceEqDiff, Nat.reduceAdd, Nat.reduceLeDiff, Nat.reduceBEq, Value.cells, reduceCtorEq, tyAllRW31d, then_normal, Int.reduceBEq, Int.reduceBNe, Nat.reduceMul, Nat.reduceDiv, Int.reduceToNat, Int.reduceNeg, Int.reduceAdd, Int.reduceSub, Int.reduceMul, Nat.reduceSub, Nat.reduceLT, implies_true, imp_self, cvCore, *] | ((with_reducible refine And.intro ?_ ?_); (focus omega)) | with_reducible refine cK_both _ _ _ _ _ _ (fun hc => ?_) (fun hc => ?_) | ((with_reducible refine gO_both _ _ (fun hc => ?_) (fun hc => ?_)) <;> (try simp only [Bool.not_true, Bool.not_false] at hc)) | ((with_reducible refine gH_both _ _ (fun hc => ?_) (fun hc => ?_)) <;> (try simp only [Bool.not_true, Bool.not_false] at hc)) | with_reducible refine pickK_both _ (fun hc => ?_) (fun hc => ?_))
    all_goals exact (show ∀ m', m' b2 = some (.cells (i64 (tabI (cntW Gl))).toArray 154) → Keep m m' (some b2) → K (.int .i64 0) m' from h) _ o2 kp
end
end Go.Proofs.Ytcddhbhdpleppaa.R
