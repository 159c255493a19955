/- The shift's layer: a message that is sent, looked at by a clock that is moved. No conditions. -/
import Derived.Test.YtapppaccnkojkaaSShiftSentRW07e
import Derived.Test.YtapppaccnkojkaaSShiftSentRW19c
import Derived.Test.YtapppaccnkojkaaSShiftSentRW14b
import Derived.Test.YtapppaccnkojkaaRAuto
import Derived.Test.YtapppaccnkojkaaROpen
set_option linter.unusedVariables false
set_option linter.unusedSimpArgs false
namespace Go.Proofs.Ytapppaccnkojkaa.R
open Go Go.RowKit Go.Proofs.Ytapppaccnkojkaa
set_option maxRecDepth 100000
set_option maxHeartbeats 8000000
section
variable {W0 : World}
/-- Where a place that is looked at lies. -/
theorem look_facts {w k lo cd : Int} (h : Plc w k lo cd) {p : Int} (hI : lookI (slotS w k lo) cd p = true) :
    ∃ q : Nat, (q : Int) < 8 * w ∧ lookN (slotS w k lo) cd p = q ∧ p = 40 + 80 * cd + 20 * q + (if lookS (slotS w k lo) cd p then 15 else 5) ∧
      cntC (40 + 80 * cd) w p = 2 * q + (if lookS (slotS w k lo) cd p then 1 else 0) ∧ cntC (40 + 80 * cd) w (p + 1) = cntC (40 + 80 * cd) w p + 1 := by
  have hbg := h.bg
  have h8 := h.w8
  have hc := h.c4
  have hc1 := look_cnt (s := slotS w k lo) (c := cd) (p := p) h8 (by rw [hbg]; omega)
  rw [hI, hbg] at hc1
  have hh := (look_iff (s := slotS w k lo) h8).1 hI
  rw [hbg] at hh
  replace hh : 40 + 80 * cd ≠ 0 ∧ 40 + 80 * cd ≤ p ∧ p < 40 + 80 * cd + 160 * w ∧ (p - (40 + 80 * cd)) % 10 = 5 := hh
  have hlw : longW w = 8 * w := by unfold longW; rw [if_neg (by omega)]
  have hB : wiB (slotS w k lo) cd p = true := by unfold wiB; rw [hbg, if_neg (by omega)]; simp [hlw]; omega
  have hD : wiD (slotS w k lo) cd p = p - (40 + 80 * cd) := by unfold wiD; rw [hbg, if_neg (by omega)]
  have hN : atN (slotS w k lo) cd p = (p - (40 + 80 * cd)) / 20 := by unfold atN; rw [hB, hD]; rfl
  have hT : atT (slotS w k lo) cd p = (p - (40 + 80 * cd)) % 20 := by unfold atT; rw [hB, hD]; rfl
  have hS : lookS (slotS w k lo) cd p = decide ((p - (40 + 80 * cd)) % 20 = 15) := by unfold lookS; rw [hI, hT, Bool.true_and, Bool.eq_iff_iff]; simp
  have hL : lookN (slotS w k lo) cd p = (p - (40 + 80 * cd)) / 20 := by unfold lookN; rw [hI, hN]; rfl
  have hC : cntC (40 + 80 * cd) w p = (p - (40 + 80 * cd) - 5) / 10 := by unfold cntC; omega
  refine ⟨((p - (40 + 80 * cd)) / 20).toNat, by omega, by rw [hL]; omega, ?_, ?_, by simpa using hc1⟩
  · rw [hS]; simp only [decide_eq_true_eq]; split <;> omega
  · rw [hC, hS]; simp only [decide_eq_true_eq]; split <;> omega
theorem words_look {w k lo cd : Int} (h : Plc w k lo cd) {ws : List Int} (hw : (ws.length : Int) = w) {q : Nat} (hq : (q : Int) < 8 * w) {r : Int} (hr : 0 ≤ r ∧ r < 20) :
    orL [wordsL (slotS w k lo) cd ws false (40 + 80 * cd + 20 * q + r), wordsL (slotS w k lo) cd ws true (40 + 80 * cd + 20 * q + r)] = if (if r < 10 then bitAt ws (q : Int) else !bitAt ws (q : Int)) then 9 else 6 := by
  have hbg := h.bg
  have h8 := h.w8
  have hc := h.c4
  have hlw : longW w = 8 * w := by unfold longW; rw [if_neg (by omega)]
  have hB : wiB (slotS w k lo) cd (40 + 80 * cd + 20 * q + r) = true := by unfold wiB; rw [hbg, if_neg (by omega)]; simp [hlw]; omega
  have hD : wiD (slotS w k lo) cd (40 + 80 * cd + 20 * q + r) = 20 * q + r := by unfold wiD; rw [hbg, if_neg (by omega)]; omega
  have hN : atN (slotS w k lo) cd (40 + 80 * cd + 20 * q + r) = q := by unfold atN; rw [hB, hD]; simp; omega
  have hT : atT (slotS w k lo) cd (40 + 80 * cd + 20 * q + r) = r := by unfold atT; rw [hB, hD]; simp; omega
  have hi : inB ws.length (q : Int) = true := by simp [inB]; omega
  rw [whole_words, hN, hi]
  simp only [↓reduceIte]
  have : levelAt (slotS w k lo) cd ws (40 + 80 * cd + 20 * q + r) = if r < 10 then bitAt ws (q : Int) else !bitAt ws (q : Int) := by
    unfold levelAt lvl
    rw [hN, hT, if_neg (by omega)]
  rw [this]
/-- What stands at a look of a bit. -/
def standN (ws : List Int) (line : Int) (st : Int → Bool) (n : Int) (sec : Bool) : Int := setL (if (if sec then !bitAt ws n else bitAt ws n) then 9 else 6) line (st n)
def lsAt (ws : List Int) (line : Int) (st : Int → Bool) (N : Nat) (c : Int) : List (Lk × Lk) :=
  (List.range N).map fun n : Nat => (if 2 * (n : Int) < c then sayLk (standN ws line st n false) else lk0, if 2 * (n : Int) + 1 < c then sayLk (standN ws line st n true) else lk0)
theorem lsAt_get (ws : List Int) (line : Int) (st : Int → Bool) {N n : Nat} (c : Int) (h : n < N) :
    (lsAt ws line st N c)[n]? = some (if 2 * (n : Int) < c then sayLk (standN ws line st n false) else lk0, if 2 * (n : Int) + 1 < c then sayLk (standN ws line st n true) else lk0) := by
  unfold lsAt; rw [List.getElem?_map, List.getElem?_range h]; rfl
theorem lsAt_length (ws : List Int) (line : Int) (st : Int → Bool) (N : Nat) (c : Int) : (lsAt ws line st N c).length = N := by simp [lsAt]
theorem lsAt_zero (ws : List Int) (line : Int) (st : Int → Bool) (N : Nat) : lsAt ws line st N 0 = List.replicate N (lk0, lk0) := by
  apply List.ext_getElem?
  intro j
  by_cases h : j < N
  · rw [lsAt_get _ _ _ _ h, List.getElem?_replicate, if_pos h, if_neg (by omega), if_neg (by omega)]
  · rw [List.getElem?_eq_none (by rw [lsAt_length]; omega), List.getElem?_eq_none (by simp; omega)]
theorem lsAt_put (ws : List Int) (line : Int) (st : Int → Bool) {N q : Nat} (h : q < N) (sec : Bool) :
    putL (lsAt ws line st N (2 * q + (if sec then 1 else 0))) q sec (standN ws line st q sec) = lsAt ws line st N (2 * q + (if sec then 1 else 0) + 1) := by
  rw [putL_in (lsAt_get ws line st _ h)]
  apply List.ext_getElem?
  intro j
  rw [List.getElem?_set, lsAt_length]
  by_cases e : q = j
  · subst e
    rw [if_pos rfl, if_pos h, lsAt_get _ _ _ _ h]
    cases sec
    · simp only [Bool.false_eq_true, ↓reduceIte]
      rw [if_neg (show ¬ 2 * (q : Int) + 1 < 2 * q + 0 by omega), if_pos (show 2 * (q : Int) < 2 * q + 0 + 1 by omega), if_neg (show ¬ 2 * (q : Int) + 1 < 2 * q + 0 + 1 by omega)]
    · simp only [↓reduceIte]
      rw [if_pos (show 2 * (q : Int) < 2 * q + 1 by omega), if_pos (show 2 * (q : Int) < 2 * q + 1 + 1 by omega), if_pos (show 2 * (q : Int) + 1 < 2 * q + 1 + 1 by omega)]
  · rw [if_neg e]
    by_cases hj : j < N
    · rw [lsAt_get _ _ _ _ hj, lsAt_get _ _ _ _ hj]
      have e1 : (2 * (j : Int) < 2 * q + (if sec then 1 else 0)) ↔ (2 * (j : Int) < 2 * q + (if sec then 1 else 0) + 1) := by cases sec <;> simp <;> omega
      have e2 : (2 * (j : Int) + 1 < 2 * q + (if sec then 1 else 0)) ↔ (2 * (j : Int) + 1 < 2 * q + (if sec then 1 else 0) + 1) := by cases sec <;> simp <;> omega
      simp only [e1, e2]
    · rw [List.getElem?_eq_none (by rw [lsAt_length]; omega), List.getElem?_eq_none (by rw [lsAt_length]; omega)]
theorem say_stands : ∀ (line k : Fin 4) (v st : Bool), sayL (setL (if v then 9 else 6) line.val st) k.val = if k = line then (st == (k.val == 0 || k.val == 3)) else v := by decide
theorem line_all (ws : List Int) {line : Int} (hl : 0 ≤ line ∧ line < 4) (st : Int → Bool) {N q : Nat} (h : q < N) {k : Int} (hk : 0 ≤ k ∧ k < 4) :
    (lineL (lsAt ws line st N (2 * N)) k q).2 = !(k == line) ∧ ((k == line) = false → (lineL (lsAt ws line st N (2 * N)) k q).1 = bitAt ws (q : Int)) := by
  obtain ⟨f, rfl⟩ := line4 hl
  obtain ⟨g, rfl⟩ := line4 hk
  have hL : lineL (lsAt ws f.val st N (2 * N)) g.val q = ((sayLk (standN ws f.val st q false)).at g.val && !(sayLk (standN ws f.val st q true)).at g.val, (sayLk (standN ws f.val st q false)).at g.val != (sayLk (standN ws f.val st q true)).at g.val) := by
    unfold lineL
    rw [lsAt_length, if_neg (by omega), Int.toNat_natCast, lsAt_get _ _ _ _ h, if_pos (show 2 * (q : Int) < 2 * N by omega), if_pos (show 2 * (q : Int) + 1 < 2 * N by omega)]
    rfl
  have s1 := say_stands f g (bitAt ws (q : Int)) (st q)
  have s2 := say_stands f g (!bitAt ws (q : Int)) (st q)
  rw [hL, say_at (by omega), say_at (by omega)]
  have e1 : standN ws f.val st q false = setL (if bitAt ws (q : Int) then 9 else 6) f.val (st q) := rfl
  have e2 : standN ws f.val st q true = setL (if (!bitAt ws (q : Int)) then 9 else 6) f.val (st q) := rfl
  rw [e1, e2, s1, s2]
  by_cases e : g = f
  · subst e
    simp
  · rw [if_neg e, if_neg e]
    have e3 : ((g.val : Int) == (f.val : Int)) = false := by rw [beq_eq_false_iff_ne]; intro x; exact e (Fin.ext (by omega))
    rw [e3]
    cases bitAt ws (q : Int) <;> simp
theorem seen_all (ws : List Int) (line : Int) (st : Int → Bool) (N : Nat) : seenN (lsAt ws line st N (2 * N)) = 2 * N := by
  have : ∀ l : List (Lk × Lk), (∀ x ∈ l, lkN x = 2) → seenN l = 2 * l.length := by
    intro l
    induction l with
    | nil => intro _; rfl
    | cons x l ih =>
      intro h
      have h1 := h x (List.mem_cons_self ..)
      have h2 := ih fun y hy => h y (List.mem_cons_of_mem _ hy)
      simp only [seenN, List.map_cons, List.sum_cons, List.length_cons] at *
      omega
  rw [this _ fun x hx => ?_, lsAt_length]
  obtain ⟨n, hn⟩ := List.getElem?_of_mem hx
  have hlt : n < N := by have := (List.getElem?_eq_some_iff.1 hn).1; rw [lsAt_length] at this; exact this
  rw [lsAt_get _ _ _ _ hlt, if_pos (show 2 * (n : Int) < 2 * N by omega), if_pos (show 2 * (n : Int) + 1 < 2 * N by omega)] at hn
  cases hn
  rfl
end
end Go.Proofs.Ytapppaccnkojkaa.R
/- Layer 2, words of bits: what the reference and the messages do. No conditions. -/
set_option linter.unusedVariables false
set_option linter.unusedSimpArgs false
namespace Go.Proofs.Ytapppaccnkojkaa.R
open Go Go.RowKit Go.Proofs.Ytapppaccnkojkaa
set_option maxRecDepth 100000
set_option maxHeartbeats 1000000
section
variable {W0 : World}
end
end Go.Proofs.Ytapppaccnkojkaa.R
/- Layer 2: putting a bit, and taking the whole. No conditions. -/
set_option linter.unusedVariables false
set_option linter.unusedSimpArgs false
namespace Go.Proofs.Ytapppaccnkojkaa.R
open Go Go.RowKit Go.Proofs.Ytapppaccnkojkaa
set_option maxRecDepth 100000
set_option maxHeartbeats 1000000
section
variable {W0 : World}
end
end Go.Proofs.Ytapppaccnkojkaa.R
/- Layer 2: bits of words, words of bits, a word that is known. No conditions. -/
set_option linter.unusedVariables false
set_option linter.unusedSimpArgs false
namespace Go.Proofs.Ytapppaccnkojkaa.R
open Go Go.RowKit Go.Proofs.Ytapppaccnkojkaa
set_option maxRecDepth 100000
set_option maxHeartbeats 1000000
section
variable {W0 : World}
def bitsOf (ws : List Int) : List Bool := (List.range (8 * ws.length)).map fun i => bitAt ws (i : Nat)
theorem bitsOf_length (ws : List Int) : (bitsOf ws).length = 8 * ws.length := by simp [bitsOf]
theorem bitsOf_get (ws : List Int) {i : Nat} (h : i < 8 * ws.length) : (bitsOf ws)[i]? = some (bitAt ws (i : Nat)) := by simp [bitsOf, h]
end
end Go.Proofs.Ytapppaccnkojkaa.R
/- The document's answers for layers 1, 2, 3, 14 and 19. No conditions. -/
set_option linter.unusedVariables false
set_option linter.unusedSimpArgs false
namespace Go.Proofs.Ytapppaccnkojkaa.R
open Go Go.RowKit Go.Proofs.Ytapppaccnkojkaa
set_option maxRecDepth 100000
set_option maxHeartbeats 8000000
theorem tyAllRW14d : type_of% (And.intro (And.intro (And.intro (And.intro (And.intro ty_1 ty_2) (And.intro ty_3 ty_4)) (And.intro (And.intro ty_5 ty_6) (And.intro ty_7 ty_8))) (And.intro (And.intro (And.intro ty_9 ty_10) (And.intro ty_11 ty_12)) (And.intro (And.intro ty_13 ty_14) (And.intro ty_15 ty_17)))) (And.intro (And.intro (And.intro (And.intro ty_21 ty_28) (And.intro ty_29 ty_65)) (And.intro (And.intro ty_92 ty_106) (And.intro ty_204 ty_205))) (And.intro (And.intro (And.intro ty_209 ty_210) (And.intro ty_211 ty_212)) (And.intro (And.intro ty_213 ty_214) (And.intro ty_215 (And.intro ty_216 ty_217)))))) := (And.intro (And.intro (And.intro (And.intro (And.intro ty_1 ty_2) (And.intro ty_3 ty_4)) (And.intro (And.intro ty_5 ty_6) (And.intro ty_7 ty_8))) (And.intro (And.intro (And.intro ty_9 ty_10) (And.intro ty_11 ty_12)) (And.intro (And.intro ty_13 ty_14) (And.intro ty_15 ty_17)))) (And.intro (And.intro (And.intro (And.intro ty_21 ty_28) (And.intro ty_29 ty_65)) (And.intro (And.intro ty_92 ty_106) (And.intro ty_204 ty_205))) (And.intro (And.intro (And.intro ty_209 ty_210) (And.intro ty_211 ty_212)) (And.intro (And.intro ty_213 ty_214) (And.intro ty_215 (And.intro ty_216 ty_217))))))
section
variable {W0 : World}
theorem take_bits {ws : List Int} {i : Nat} (h : i < 8 * ws.length) : (bitsOf ws).take (i + 1) = (bitsOf ws).take i ++ [bitAt ws (i : Int)] := take_step (bitsOf_get ws h)
theorem ref02_Bits {m : Mem} {A : Option Addr} {c : Nat} {ws : List Int} (hr : RS W0 m (.slice A ws.length c) 1 ws.length (u8 ws)) (hb : Byte ws) (hn : ws.length ≤ 1000000000) :
    Mk Try.prog W0 65 #[.slice A ws.length c] m 4 1 (8 * ws.length) (bl (bitsOf ws)) := by
  have e8 : IntKind.i64.wrap (8 * (ws.length : Int)) = ((8 * ws.length : Nat) : Int) := by rw [w64 (by omega) (by omega)]; omega
  refine ⟨fun K h => ?_⟩
  refine en_65 (l := [.slice A ws.length c]) (by simp [Try.ntmps65]) ?_
  have X : Ext m m := Ext.refl m
  simp (maxSteps := 2000000) only [Try.f65, Option.getD_some, vcCore, yieldT, Int.reduceEq, Int.reduceLT, Int.reduceLE, Int.reduceNe, not_true_eq_false, decide_true, decide_false, add_lit', Nat.zero_add, Nat.mul_one, Int.toNat_natCast, List.getElem?_toArray, List.getElem?_cons_zero, List.getElem?_cons_succ, Option.bind_some, List.map_cons, List.map_nil, List.map_toArray, Array.append_empty, Array.empty_append, List.append_nil, List.nil_append, List.append_toArray, ↓reduceIte, Nat.reduceEqDiff, Nat.reduceAdd, Nat.reduceLeDiff, List.contains_cons, List.contains_nil, Nat.reduceBEq, Bool.or_false, Bool.false_or, Bool.or_true, Bool.true_or, Bool.false_eq_true, Value.cells, List.size_toArray, List.length_cons, List.length_nil, Option.map_some, Option.map_none, Option.isSome_some, Option.isSome_none, Option.isNone_some, Option.isNone_none, true_and, and_true, ne_eq, reduceCtorEq, not_false_eq_true, Bool.not_true, Bool.not_false, tyAllRW14d, then_normal, Int.cast_ofNat_Int, BEq.rfl, bne_self_eq_false, beq_self_eq_true, Bool.and_true, Bool.true_and, Bool.and_false, Bool.false_and, Int.reduceBEq, Int.reduceBNe, Nat.reduceMul, Nat.reduceDiv, Int.reduceToNat, Int.reduceNeg, Int.reduceAdd, Int.reduceSub, Int.reduceMul, ext_lit, Nat.reduceSub, Nat.add_zero, mp2_app, resK_cc, implies_true, imp_self, bb_ft, bb_tf, bb_t, bb_f, bn_t, bn_f, Nat.reduceLT, Mem.set_app, Mem.set_set, Ext_mp1, Ext_two, st_agg, ones_nil, ones_cons, oc_int, oc_bool, oc_str, oc_ptr, oc_sl, oc_map, max_if, min_if, bld_nil, bld_cons, bldStep_some, wr_def, List.take_succ_cons, List.take_zero, List.drop_succ_cons, List.drop_zero, List.cons_append, List.toList_toArray]
  refine loop_rule (fun d t m' => ∃ (i : Nat) (A1 : Option Addr) (q1 : Nat), i ≤ 8 * ws.length ∧ d = 8 * ws.length - i ∧ t 0 = .slice A ws.length c ∧ t 3 = .slice A1 i q1 ∧ t 4 = .int .i64 i ∧ NewS W0 m m' 4 1 (.slice A1 i q1) i (bl ((bitsOf ws).take i)))
    (8 * ws.length) (by kernel_rfl) ⟨0, none, 0, by omega, by omega, rfl, rfl, rfl, NewS.nil m 4 1⟩ ?_
  clear X
  rintro d t m' ⟨i, A1, q1, hi, rfl, t0, t3, t4, N1⟩
  have X := N1.ext
  by_cases hlt : i < 8 * ws.length
  · have h1 : (i : Int) < ((8 * ws.length : Nat) : Int) := by omega
    have h2 := wrap_succ (i := i) (by omega)
    obtain ⟨x, hx⟩ := get_some (l := ws) (i := i / 8) (by omega)
    obtain ⟨a, rfl, hc⟩ := (hr.ext X).u8 hx
    have hxb := hb.get hx
    have f0 : IntKind.i64.wrap ((i : Int).tdiv 8) = ((i / 8 : Nat) : Int) := by rw [tdiv_pos (by omega), w64 (by omega) (by omega)]; omega
    have f1 : IntKind.i64.wrap x = x := w64 (by omega) (by omega)
    have f2 : (i : Int).tmod 8 = ((i % 8 : Nat) : Int) := by rw [tmod_pos (by omega)]; omega
    have f3 : IntKind.i64.wrap (7 - ((i % 8 : Nat) : Int)) = ((7 - i % 8 : Nat) : Int) := by rw [w64 (by omega) (by omega)]; omega
    have f4 : IntKind.u64.wrap ((7 - i % 8 : Nat) : Int) = ((7 - i % 8 : Nat) : Int) := (show ∀ r : Fin 8, IntKind.u64.wrap (r.val : Int) = r.val by decide) ⟨7 - i % 8, by omega⟩
    have f5 : ((x.fdiv (2 ^ min (7 - i % 8) IntKind.i64.bits)).tmod 2 == 1) = bitAt ws (i : Int) := by
      have e1 : min (7 - i % 8) IntKind.i64.bits = 7 - i % 8 := by show min _ 64 = _; omega
      have e2 : ws.getD ((i : Int) / 8).toNat 0 = x := by rw [List.getD_eq_getElem?_getD, show ((i : Int) / 8).toNat = i / 8 by omega, hx]; rfl
      have e3 : (7 - (i : Int) % 8).toNat = 7 - i % 8 := by omega
      unfold bitAt
      rw [e1, e2, e3, fdiv_pos (Int.pow_nonneg (by decide)), tmod_pos (Int.ediv_nonneg hxb.1 (Int.pow_nonneg (by decide)))]
    have f6 : (0 : Int) ≤ ((7 - i % 8 : Nat) : Int) := by omega
    have f7 : ((i / 8 : Nat) : Int) < (ws.length : Int) := by omega
    have f8 : (0 : Int) ≤ ((i / 8 : Nat) : Int) := by omega
    have hmx : i + 1 ≤ maxLen ∧ (i + 1) * 1 ≤ 140737488355328 := by unfold maxLen; omega
    have hbt := take_bits hlt
    replace hbt : Hid _ := hbt
    clear hx
    repeat' (first
      | simp (maxSteps := 2000000) only [vcCore, yieldT, Int.reduceEq, Int.reduceLT, Int.reduceLE, Int.reduceNe, not_true_eq_false, decide_true, decide_false, add_lit', Nat.zero_add, Nat.mul_one, Int.toNat_natCast, List.getElem?_toArray, List.getElem?_cons_zero, List.getElem?_cons_succ, Option.bind_some, List.map_cons, List.map_nil, List.map_toArray, Array.append_empty, Array.empty_append, List.append_nil, List.nil_append, List.append_toArray, ↓reduceIte, Nat.reduceEqDiff, Nat.reduceAdd, Nat.reduceLeDiff, List.contains_cons, List.contains_nil, Nat.reduceBEq, Bool.or_false, Bool.false_or, Bool.or_true, Bool.true_or, Bool.false_eq_true, Value.cells, List.size_toArray, List.length_cons, List.length_nil, Option.map_some, Option.map_none, Option.isSome_some, Option.isSome_none, Option.isNone_some, Option.isNone_none, true_and, and_true, ne_eq, reduceCtorEq, not_false_eq_true, Bool.not_true, Bool.not_false, tyAllRW14d, then_normal, Int.cast_ofNat_Int, BEq.rfl, bne_self_eq_false, beq_self_eq_true, Bool.and_true, Bool.true_and, Bool.and_false, Bool.false_and, Int.reduceBEq, Int.reduceBNe, Nat.reduceMul, Nat.reduceDiv, Int.reduceToNat, Int.reduceNeg, Int.reduceAdd, Int.reduceSub, Int.reduceMul, ext_lit, Nat.reduceSub, Nat.add_zero, mp2_app, resK_cc, implies_true, imp_self, bb_ft, bb_tf, bb_t, bb_f, bn_t, bn_f, Nat.reduceLT, Mem.set_app, Mem.set_set, Ext_mp1, Ext_two, st_agg, ones_nil, ones_cons, oc_int, oc_bool, oc_str, oc_ptr, oc_sl, oc_map, max_if, min_if, bld_nil, bld_cons, bldStep_some, wr_def, List.take_succ_cons, List.take_zero, List.drop_succ_cons, List.drop_zero, List.cons_append, List.toList_toArray, *, e8]
      | (rw [mset_eq b1]; generalize hM : mset _ b1 _ = mS; (try replace X := set_X hM X n1); (first | replace KP := KP_self hM KP | replace KP := KP_set hM KP n1 | skip); (try replace N1 := set_N hM N1 n1 z1); (try (replace o2 := set_o hM o2 d21; replace c2 := blk_facts hb2 o2)); (try (replace o3 := set_o hM o3 d31; replace c3 := blk_facts hb3 o3)); (try (replace o4 := set_o hM o4 d41; replace c4 := blk_facts hb4 o4)); (try (replace o5 := set_o hM o5 d51; replace c5 := blk_facts hb5 o5)); replace o1 := set_same hM; clear hM; replace c1 := blk_facts hb1 o1)
      | (rw [mset_eq b2]; generalize hM : mset _ b2 _ = mS; (try replace X := set_X hM X n2); (first | replace KP := KP_self hM KP | replace KP := KP_set hM KP n2 | skip); (try replace N1 := set_N hM N1 n2 z2); (try (replace o1 := set_o hM o1 d12; replace c1 := blk_facts hb1 o1)); (try (replace o3 := set_o hM o3 d32; replace c3 := blk_facts hb3 o3)); (try (replace o4 := set_o hM o4 d42; replace c4 := blk_facts hb4 o4)); (try (replace o5 := set_o hM o5 d52; replace c5 := blk_facts hb5 o5)); replace o2 := set_same hM; clear hM; replace c2 := blk_facts hb2 o2)
      | (rw [mset_eq b3]; generalize hM : mset _ b3 _ = mS; (try replace X := set_X hM X n3); (first | replace KP := KP_self hM KP | replace KP := KP_set hM KP n3 | skip); (try replace N1 := set_N hM N1 n3 z3); (try (replace o1 := set_o hM o1 d13; replace c1 := blk_facts hb1 o1)); (try (replace o2 := set_o hM o2 d23; replace c2 := blk_facts hb2 o2)); (try (replace o4 := set_o hM o4 d43; replace c4 := blk_facts hb4 o4)); (try (replace o5 := set_o hM o5 d53; replace c5 := blk_facts hb5 o5)); replace o3 := set_same hM; clear hM; replace c3 := blk_facts hb3 o3)
      | (rw [mset_eq b4]; generalize hM : mset _ b4 _ = mS; (try replace X := set_X hM X n4); (first | replace KP := KP_self hM KP | replace KP := KP_set hM KP n4 | skip); (try replace N1 := set_N hM N1 n4 z4); (try (replace o1 := set_o hM o1 d14; replace c1 := blk_facts hb1 o1)); (try (replace o2 := set_o hM o2 d24; replace c2 := blk_facts hb2 o2)); (try (replace o3 := set_o hM o3 d34; replace c3 := blk_facts hb3 o3)); (try (replace o5 := set_o hM o5 d54; replace c5 := blk_facts hb5 o5)); replace o4 := set_same hM; clear hM; replace c4 := blk_facts hb4 o4)
      | (rw [mset_eq b5]; generalize hM : mset _ b5 _ = mS; (try replace X := set_X hM X n5); (first | replace KP := KP_self hM KP | replace KP := KP_set hM KP n5 | skip); (try replace N1 := set_N hM N1 n5 z5); (try (replace o1 := set_o hM o1 d15; replace c1 := blk_facts hb1 o1)); (try (replace o2 := set_o hM o2 d25; replace c2 := blk_facts hb2 o2)); (try (replace o3 := set_o hM o3 d35; replace c3 := blk_facts hb3 o3)); (try (replace o4 := set_o hM o4 d45; replace c4 := blk_facts hb4 o4)); replace o5 := set_same hM; clear hM; replace c5 := blk_facts hb5 o5)
      | ((first | ((with_reducible refine newK_init ?_ ?_ ?_ ?_); (focus (intro b; simp only [ev_tmp, ev_const, upd_app, reduceCtorEq, Nat.reduceEqDiff, Nat.reduceAdd, ↓reduceIte, Value.cells, List.size_toArray, List.length_cons, List.length_nil, st_int, st_bool, st_string, st_pointer, st_slice, st_map, st_agg, ones_nil, ones_cons, oc_int, oc_bool, oc_str, oc_ptr, oc_sl, oc_map, Bool.and_true, tyAllRW14d, Option.map_some]; done)); (focus (simp only [ev_tmp, ev_const, upd_app, reduceCtorEq, Nat.reduceEqDiff, Nat.reduceAdd, ↓reduceIte, Value.cells, List.size_toArray, List.length_cons, List.length_nil, st_int, st_bool, st_string, st_pointer, st_slice, st_map, st_agg, ones_nil, ones_cons, oc_int, oc_bool, oc_str, oc_ptr, oc_sl, oc_map, Bool.and_true, tyAllRW14d, Option.map_some]; done)); (focus (intro b; simp only [ev_tmp, ev_const, upd_app, reduceCtorEq, Nat.reduceEqDiff, Nat.reduceAdd, ↓reduceIte, Value.cells, List.size_toArray, List.length_cons, List.length_nil, st_int, st_bool, st_string, st_pointer, st_slice, st_map, st_agg, ones_nil, ones_cons, oc_int, oc_bool, oc_str, oc_ptr, oc_sl, oc_map, Bool.and_true, tyAllRW14d, Option.map_some]; done))) | ((with_reducible refine newK.id ?_); refine newK_intro ?_) | ((with_reducible refine RunA.id ?_); (first | with_reducible refine rbuild1 sl_28 ze_5 ?_ ?_ ?_ | with_reducible refine rbuild1 sl_106 ze_4 ?_ ?_ ?_); (focus (simp only [Value.cells, List.size_toArray, List.length_cons, List.length_nil]; done)); (focus decide)) | ((first | with_reducible refine bG1 sl_28 ze_5 ?_ ?_ ?_ | with_reducible refine bG1 sl_106 ze_4 ?_ ?_ ?_); (focus (simp only [Value.cells, List.size_toArray, List.length_cons, List.length_nil]; done)); (focus decide)) | ((with_reducible refine RunA.id ?_); (first | with_reducible refine rbuild2 sl_28 ze_5 rfl rfl ?_ | with_reducible refine rbuild2 sl_106 ze_4 rfl rfl ?_)) | (first | with_reducible refine bG2 sl_28 ze_5 rfl rfl ?_ | with_reducible refine bG2 sl_106 ze_4 rfl rfl ?_)); (first | (have := o4; intro b5 m1 hb5 n5 e1 o5; (try (have d51 := ne_of o1 n5; have d15 := d51.symm)); (try (have d52 := ne_of o2 n5; have d25 := d52.symm)); (try (have d53 := ne_of o3 n5; have d35 := d53.symm)); (try (have d54 := ne_of o4 n5; have d45 := d54.symm)); (try have z5 := own_ne N1.own n5); replace n5 := none_of X n5; (try simp only [ev_tmp, ev_const, upd_app, reduceCtorEq, Nat.reduceEqDiff, Nat.reduceAdd, ↓reduceIte, Value.cells, List.size_toArray, List.length_cons, List.length_nil, st_int, st_bool, st_string, st_pointer, st_slice, st_map, st_agg, ones_nil, ones_cons, oc_int, oc_bool, oc_str, oc_ptr, oc_sl, oc_map, Bool.and_true, tyAllRW14d, Option.map_some] at o5)) | (have := o3; intro b4 m1 hb4 n4 e1 o4; (try (have d41 := ne_of o1 n4; have d14 := d41.symm)); (try (have d42 := ne_of o2 n4; have d24 := d42.symm)); (try (have d43 := ne_of o3 n4; have d34 := d43.symm)); (try have z4 := own_ne N1.own n4); replace n4 := none_of X n4; (try simp only [ev_tmp, ev_const, upd_app, reduceCtorEq, Nat.reduceEqDiff, Nat.reduceAdd, ↓reduceIte, Value.cells, List.size_toArray, List.length_cons, List.length_nil, st_int, st_bool, st_string, st_pointer, st_slice, st_map, st_agg, ones_nil, ones_cons, oc_int, oc_bool, oc_str, oc_ptr, oc_sl, oc_map, Bool.and_true, tyAllRW14d, Option.map_some] at o4)) | (have := o2; intro b3 m1 hb3 n3 e1 o3; (try (have d31 := ne_of o1 n3; have d13 := d31.symm)); (try (have d32 := ne_of o2 n3; have d23 := d32.symm)); (try have z3 := own_ne N1.own n3); replace n3 := none_of X n3; (try simp only [ev_tmp, ev_const, upd_app, reduceCtorEq, Nat.reduceEqDiff, Nat.reduceAdd, ↓reduceIte, Value.cells, List.size_toArray, List.length_cons, List.length_nil, st_int, st_bool, st_string, st_pointer, st_slice, st_map, st_agg, ones_nil, ones_cons, oc_int, oc_bool, oc_str, oc_ptr, oc_sl, oc_map, Bool.and_true, tyAllRW14d, Option.map_some] at o3)) | (have := o1; intro b2 m1 hb2 n2 e1 o2; (try (have d21 := ne_of o1 n2; have d12 := d21.symm)); (try have z2 := own_ne N1.own n2); replace n2 := none_of X n2; (try simp only [ev_tmp, ev_const, upd_app, reduceCtorEq, Nat.reduceEqDiff, Nat.reduceAdd, ↓reduceIte, Value.cells, List.size_toArray, List.length_cons, List.length_nil, st_int, st_bool, st_string, st_pointer, st_slice, st_map, st_agg, ones_nil, ones_cons, oc_int, oc_bool, oc_str, oc_ptr, oc_sl, oc_map, Bool.and_true, tyAllRW14d, Option.map_some] at o2)) | (intro b1 m1 hb1 n1 e1 o1; (try have z1 := own_ne N1.own n1); replace n1 := none_of X n1; (try simp only [ev_tmp, ev_const, upd_app, reduceCtorEq, Nat.reduceEqDiff, Nat.reduceAdd, ↓reduceIte, Value.cells, List.size_toArray, List.length_cons, List.length_nil, st_int, st_bool, st_string, st_pointer, st_slice, st_map, st_agg, ones_nil, ones_cons, oc_int, oc_bool, oc_str, oc_ptr, oc_sl, oc_map, Bool.and_true, tyAllRW14d, Option.map_some] at o1))); (try replace X := X.trans e1); (try replace N1 := N1.later e1); (try (replace o1 := e1 _ _ o1; replace c1 := blk_facts hb1 o1)); (try (replace o2 := e1 _ _ o2; replace c2 := blk_facts hb2 o2)); (try (replace o3 := e1 _ _ o3; replace c3 := blk_facts hb3 o3)); (try (replace o4 := e1 _ _ o4; replace c4 := blk_facts hb4 o4)); (try (replace o5 := e1 _ _ o5; replace c5 := blk_facts hb5 o5)); (try have c1 := blk_facts hb1 o1); (try have c2 := blk_facts hb2 o2); (try have c3 := blk_facts hb3 o3); (try have c4 := blk_facts hb4 o4); (try have c5 := blk_facts hb5 o5))
      | ((with_reducible refine RunA.id ?_); (first | (first | with_reducible refine app_one sl_28 ze_5 by_5 ⟨rfl, by decide⟩ N1 hb5 o5 ?_ ?_ ?_ ?_ | with_reducible refine app_one sl_106 ze_4 by_4 ⟨rfl, by decide⟩ N1 hb5 o5 ?_ ?_ ?_ ?_) | (first | with_reducible refine app_one sl_28 ze_5 by_5 ⟨rfl, by decide⟩ N1 hb4 o4 ?_ ?_ ?_ ?_ | with_reducible refine app_one sl_106 ze_4 by_4 ⟨rfl, by decide⟩ N1 hb4 o4 ?_ ?_ ?_ ?_) | (first | with_reducible refine app_one sl_28 ze_5 by_5 ⟨rfl, by decide⟩ N1 hb3 o3 ?_ ?_ ?_ ?_ | with_reducible refine app_one sl_106 ze_4 by_4 ⟨rfl, by decide⟩ N1 hb3 o3 ?_ ?_ ?_ ?_) | (first | with_reducible refine app_one sl_28 ze_5 by_5 ⟨rfl, by decide⟩ N1 hb2 o2 ?_ ?_ ?_ ?_ | with_reducible refine app_one sl_106 ze_4 by_4 ⟨rfl, by decide⟩ N1 hb2 o2 ?_ ?_ ?_ ?_) | (first | with_reducible refine app_one sl_28 ze_5 by_5 ⟨rfl, by decide⟩ N1 hb1 o1 ?_ ?_ ?_ ?_ | with_reducible refine app_one sl_106 ze_4 by_4 ⟨rfl, by decide⟩ N1 hb1 o1 ?_ ?_ ?_ ?_)); (focus rfl); (focus (simp only [List.toList_toArray, st_agg, ones_nil, ones_cons, oc_int, oc_bool, oc_str, oc_ptr, oc_sl, oc_map, Bool.and_true]; done)); (focus (constructor <;> first | omega | (simp only [maxLen]; omega))); intro A1 q1 m1 N1 k1; replace X := N1.ext; (try (replace z1 := k1 _ _ o1 z1; replace o1 := z1.1; replace z1 := z1.2; replace c1 := blk_facts hb1 o1)); (try (replace z2 := k1 _ _ o2 z2; replace o2 := z2.1; replace z2 := z2.2; replace c2 := blk_facts hb2 o2)); (try (replace z3 := k1 _ _ o3 z3; replace o3 := z3.1; replace z3 := z3.2; replace c3 := blk_facts hb3 o3)); (try (replace z4 := k1 _ _ o4 z4; replace o4 := z4.1; replace z4 := z4.2; replace c4 := blk_facts hb4 o4)); (try (replace z5 := k1 _ _ o5 z5; replace o5 := z5.1; replace z5 := z5.2; replace c5 := blk_facts hb5 o5)))
      | ((first | with_reducible refine rsl_hZ sl_28 ?_ ?_ ?_ | with_reducible refine rsl_hZ sl_106 ?_ ?_ ?_); (iterate 2 (focus (first | omega | (simp only [*] <;> omega)))))
      | ((first | with_reducible refine rsl_lZ sl_28 ?_ ?_ ?_ | with_reducible refine rsl_lZ sl_106 ?_ ?_ ?_); (iterate 2 (focus (first | omega | (simp only [*] <;> omega)))))
      | ((with_reducible refine CodeA.id ?_); (first | fail))
      | ((with_reducible refine And.intro ?_ ?_); (focus omega))
      | with_reducible refine cK_both _ _ _ _ _ _ (fun hc => ?_) (fun hc => ?_)
      | ((with_reducible refine gO_both _ _ (fun hc => ?_) (fun hc => ?_)) <;> (try simp only [Bool.not_true, Bool.not_false] at hc))
      | ((with_reducible refine gH_both _ _ (fun hc => ?_) (fun hc => ?_)) <;> (try simp only [Bool.not_true, Bool.not_false] at hc))
      | with_reducible refine pickK_both _ (fun hc => ?_) (fun hc => ?_))
    exact ⟨8 * ws.length - (i + 1), by omega, i + 1, A1, q1, by omega, rfl, t0, rfl, rfl, by rw [show (bitsOf ws).take (i + 1) = _ from hbt]; simpa [bl] using N1⟩
  · have h1 : ¬ (i : Int) < ((8 * ws.length : Nat) : Int) := by omega
    obtain rfl : i = 8 * ws.length := by omega
    rw [List.take_of_length_le (by rw [bitsOf_length]; omega)] at N1
    repeat' (first
      | simp (maxSteps := 2000000) only [vcCore, yieldT, Int.reduceEq, Int.reduceLT, Int.reduceLE, Int.reduceNe, not_true_eq_false, decide_true, decide_false, add_lit', Nat.zero_add, Nat.mul_one, Int.toNat_natCast, List.getElem?_toArray, List.getElem?_cons_zero, List.getElem?_cons_succ, Option.bind_some, List.map_cons, List.map_nil, List.map_toArray, Array.append_empty, Array.empty_append, List.append_nil, List.nil_append, List.append_toArray, ↓reduceIte, Nat.reduceEqDiff, Nat.reduceAdd, Nat.reduceLeDiff, List.contains_cons, List.contains_nil, Nat.reduceBEq, Bool.or_false, Bool.false_or, Bool.or_true, Bool.true_or, Bool.false_eq_true, Value.cells, List.size_toArray, List.length_cons, List.length_nil, Option.map_some, Option.map_none, Option.isSome_some, Option.isSome_none, Option.isNone_some, Option.isNone_none, true_and, and_true, ne_eq, reduceCtorEq, not_false_eq_true, Bool.not_true, Bool.not_false, tyAllRW14d, then_normal, Int.cast_ofNat_Int, BEq.rfl, bne_self_eq_false, beq_self_eq_true, Bool.and_true, Bool.true_and, Bool.and_false, Bool.false_and, Int.reduceBEq, Int.reduceBNe, Nat.reduceMul, Nat.reduceDiv, Int.reduceToNat, Int.reduceNeg, Int.reduceAdd, Int.reduceSub, Int.reduceMul, ext_lit, Nat.reduceSub, Nat.add_zero, mp2_app, resK_cc, implies_true, imp_self, bb_ft, bb_tf, bb_t, bb_f, bn_t, bn_f, Nat.reduceLT, Mem.set_app, Mem.set_set, Ext_mp1, Ext_two, st_agg, ones_nil, ones_cons, oc_int, oc_bool, oc_str, oc_ptr, oc_sl, oc_map, max_if, min_if, bld_nil, bld_cons, bldStep_some, wr_def, List.take_succ_cons, List.take_zero, List.drop_succ_cons, List.drop_zero, List.cons_append, List.toList_toArray, *, e8]
      | (rw [mset_eq b1]; generalize hM : mset _ b1 _ = mS; (try replace X := set_X hM X n1); (first | replace KP := KP_self hM KP | replace KP := KP_set hM KP n1 | skip); (try replace N1 := set_N hM N1 n1 z1); (try (replace o2 := set_o hM o2 d21; replace c2 := blk_facts hb2 o2)); (try (replace o3 := set_o hM o3 d31; replace c3 := blk_facts hb3 o3)); (try (replace o4 := set_o hM o4 d41; replace c4 := blk_facts hb4 o4)); (try (replace o5 := set_o hM o5 d51; replace c5 := blk_facts hb5 o5)); replace o1 := set_same hM; clear hM; replace c1 := blk_facts hb1 o1)
      | (rw [mset_eq b2]; generalize hM : mset _ b2 _ = mS; (try replace X := set_X hM X n2); (first | replace KP := KP_self hM KP | replace KP := KP_set hM KP n2 | skip); (try replace N1 := set_N hM N1 n2 z2); (try (replace o1 := set_o hM o1 d12; replace c1 := blk_facts hb1 o1)); (try (replace o3 := set_o hM o3 d32; replace c3 := blk_facts hb3 o3)); (try (replace o4 := set_o hM o4 d42; replace c4 := blk_facts hb4 o4)); (try (replace o5 := set_o hM o5 d52; replace c5 := blk_facts hb5 o5)); replace o2 := set_same hM; clear hM; replace c2 := blk_facts hb2 o2)
      | (rw [mset_eq b3]; generalize hM : mset _ b3 _ = mS; (try replace X := set_X hM X n3); (first | replace KP := KP_self hM KP | replace KP := KP_set hM KP n3 | skip); (try replace N1 := set_N hM N1 n3 z3); (try (replace o1 := set_o hM o1 d13; replace c1 := blk_facts hb1 o1)); (try (replace o2 := set_o hM o2 d23; replace c2 := blk_facts hb2 o2)); (try (replace o4 := set_o hM o4 d43; replace c4 := blk_facts hb4 o4)); (try (replace o5 := set_o hM o5 d53; replace c5 := blk_facts hb5 o5)); replace o3 := set_same hM; clear hM; replace c3 := blk_facts hb3 o3)
      | (rw [mset_eq b4]; generalize hM : mset _ b4 _ = mS; (try replace X := set_X hM X n4); (first | replace KP := KP_self hM KP | replace KP := KP_set hM KP n4 | skip); (try replace N1 := set_N hM N1 n4 z4); (try (replace o1 := set_o hM o1 d14; replace c1 := blk_facts hb1 o1)); (try (replace o2 := set_o hM o2 d24; replace c2 := blk_facts hb2 o2)); (try (replace o3 := set_o hM o3 d34; replace c3 := blk_facts hb3 o3)); (try (replace o5 := set_o hM o5 d54; replace c5 := blk_facts hb5 o5)); replace o4 := set_same hM; clear hM; replace c4 := blk_facts hb4 o4)
      | (rw [mset_eq b5]; generalize hM : mset _ b5 _ = mS; (try replace X := set_X hM X n5); (first | replace KP := KP_self hM KP | replace KP := KP_set hM KP n5 | skip); (try replace N1 := set_N hM N1 n5 z5); (try (replace o1 := set_o hM o1 d15; replace c1 := blk_facts hb1 o1)); (try (replace o2 := set_o hM o2 d25; replace c2 := blk_facts hb2 o2)); (try (replace o3 := set_o hM o3 d35; replace c3 := blk_facts hb3 o3)); (try (replace o4 := set_o hM o4 d45; replace c4 := blk_facts hb4 o4)); replace o5 := set_same hM; clear hM; replace c5 := blk_facts hb5 o5)
      | ((first | ((with_reducible refine newK_init ?_ ?_ ?_ ?_); (focus (intro b; simp only [ev_tmp, ev_const, upd_app, reduceCtorEq, Nat.reduceEqDiff, Nat.reduceAdd, ↓reduceIte, Value.cells, List.size_toArray, List.length_cons, List.length_nil, st_int, st_bool, st_string, st_pointer, st_slice, st_map, st_agg, ones_nil, ones_cons, oc_int, oc_bool, oc_str, oc_ptr, oc_sl, oc_map, Bool.and_true, tyAllRW14d, Option.map_some]; done)); (focus (simp only [ev_tmp, ev_const, upd_app, reduceCtorEq, Nat.reduceEqDiff, Nat.reduceAdd, ↓reduceIte, Value.cells, List.size_toArray, List.length_cons, List.length_nil, st_int, st_bool, st_string, st_pointer, st_slice, st_map, st_agg, ones_nil, ones_cons, oc_int, oc_bool, oc_str, oc_ptr, oc_sl, oc_map, Bool.and_true, tyAllRW14d, Option.map_some]; done)); (focus (intro b; simp only [ev_tmp, ev_const, upd_app, reduceCtorEq, Nat.reduceEqDiff, Nat.reduceAdd, ↓reduceIte, Value.cells, List.size_toArray, List.length_cons, List.length_nil, st_int, st_bool, st_string, st_pointer, st_slice, st_map, st_agg, ones_nil, ones_cons, oc_int, oc_bool, oc_str, oc_ptr, oc_sl, oc_map, Bool.and_true, tyAllRW14d, Option.map_some]; done))) | ((with_reducible refine newK.id ?_); refine newK_intro ?_) | ((with_reducible refine RunA.id ?_); (first | with_reducible refine rbuild1 sl_28 ze_5 ?_ ?_ ?_ | with_reducible refine rbuild1 sl_106 ze_4 ?_ ?_ ?_); (focus (simp only [Value.cells, List.size_toArray, List.length_cons, List.length_nil]; done)); (focus decide)) | ((first | with_reducible refine bG1 sl_28 ze_5 ?_ ?_ ?_ | with_reducible refine bG1 sl_106 ze_4 ?_ ?_ ?_); (focus (simp only [Value.cells, List.size_toArray, List.length_cons, List.length_nil]; done)); (focus decide)) | ((with_reducible refine RunA.id ?_); (first | with_reducible refine rbuild2 sl_28 ze_5 rfl rfl ?_ | with_reducible refine rbuild2 sl_106 ze_4 rfl rfl ?_)) | (first | with_reducible refine bG2 sl_28 ze_5 rfl rfl ?_ | with_reducible refine bG2 sl_106 ze_4 rfl rfl ?_)); (first | (have := o4; intro b5 m1 hb5 n5 e1 o5; (try (have d51 := ne_of o1 n5; have d15 := d51.symm)); (try (have d52 := ne_of o2 n5; have d25 := d52.symm)); (try (have d53 := ne_of o3 n5; have d35 := d53.symm)); (try (have d54 := ne_of o4 n5; have d45 := d54.symm)); (try have z5 := own_ne N1.own n5); replace n5 := none_of X n5; (try simp only [ev_tmp, ev_const, upd_app, reduceCtorEq, Nat.reduceEqDiff, Nat.reduceAdd, ↓reduceIte, Value.cells, List.size_toArray, List.length_cons, List.length_nil, st_int, st_bool, st_string, st_pointer, st_slice, st_map, st_agg, ones_nil, ones_cons, oc_int, oc_bool, oc_str, oc_ptr, oc_sl, oc_map, Bool.and_true, tyAllRW14d, Option.map_some] at o5)) | (have := o3; intro b4 m1 hb4 n4 e1 o4; (try (have d41 := ne_of o1 n4; have d14 := d41.symm)); (try (have d42 := ne_of o2 n4; have d24 := d42.symm)); (try (have d43 := ne_of o3 n4; have d34 := d43.symm)); (try have z4 := own_ne N1.own n4); replace n4 := none_of X n4; (try simp only [ev_tmp, ev_const, upd_app, reduceCtorEq, Nat.reduceEqDiff, Nat.reduceAdd, ↓reduceIte, Value.cells, List.size_toArray, List.length_cons, List.length_nil, st_int, st_bool, st_string, st_pointer, st_slice, st_map, st_agg, ones_nil, ones_cons, oc_int, oc_bool, oc_str, oc_ptr, oc_sl, oc_map, Bool.and_true, tyAllRW14d, Option.map_some] at o4)) | (have := o2; intro b3 m1 hb3 n3 e1 o3; (try (have d31 := ne_of o1 n3; have d13 := d31.symm)); (try (have d32 := ne_of o2 n3; have d23 := d32.symm)); (try have z3 := own_ne N1.own n3); replace n3 := none_of X n3; (try simp only [ev_tmp, ev_const, upd_app, reduceCtorEq, Nat.reduceEqDiff, Nat.reduceAdd, ↓reduceIte, Value.cells, List.size_toArray, List.length_cons, List.length_nil, st_int, st_bool, st_string, st_pointer, st_slice, st_map, st_agg, ones_nil, ones_cons, oc_int, oc_bool, oc_str, oc_ptr, oc_sl, oc_map, Bool.and_true, tyAllRW14d, Option.map_some] at o3)) | (have := o1; intro b2 m1 hb2 n2 e1 o2; (try (have d21 := ne_of o1 n2; have d12 := d21.symm)); (try have z2 := own_ne N1.own n2); replace n2 := none_of X n2; (try simp only [ev_tmp, ev_const, upd_app, reduceCtorEq, Nat.reduceEqDiff, Nat.reduceAdd, ↓reduceIte, Value.cells, List.size_toArray, List.length_cons, List.length_nil, st_int, st_bool, st_string, st_pointer, st_slice, st_map, st_agg, ones_nil, ones_cons, oc_int, oc_bool, oc_str, oc_ptr, oc_sl, oc_map, Bool.and_true, tyAllRW14d, Option.map_some] at o2)) | (intro b1 m1 hb1 n1 e1 o1; (try have z1 := own_ne N1.own n1); replace n1 := none_of X n1; (try simp only [ev_tmp, ev_const, upd_app, reduceCtorEq, Nat.reduceEqDiff, Nat.reduceAdd, ↓reduceIte, Value.cells, List.size_toArray, List.length_cons, List.length_nil, st_int, st_bool, st_string, st_pointer, st_slice, st_map, st_agg, ones_nil, ones_cons, oc_int, oc_bool, oc_str, oc_ptr, oc_sl, oc_map, Bool.and_true, tyAllRW14d, Option.map_some] at o1))); (try replace X := X.trans e1); (try replace N1 := N1.later e1); (try (replace o1 := e1 _ _ o1; replace c1 := blk_facts hb1 o1)); (try (replace o2 := e1 _ _ o2; replace c2 := blk_facts hb2 o2)); (try (replace o3 := e1 _ _ o3; replace c3 := blk_facts hb3 o3)); (try (replace o4 := e1 _ _ o4; replace c4 := blk_facts hb4 o4)); (try (replace o5 := e1 _ _ o5; replace c5 := blk_facts hb5 o5)); (try have c1 := blk_facts hb1 o1); (try have c2 := blk_facts hb2 o2); (try have c3 := blk_facts hb3 o3); (try have c4 := blk_facts hb4 o4); (try have c5 := blk_facts hb5 o5))
      | ((with_reducible refine RunA.id ?_); (first | (first | with_reducible refine app_one sl_28 ze_5 by_5 ⟨rfl, by decide⟩ N1 hb5 o5 ?_ ?_ ?_ ?_ | with_reducible refine app_one sl_106 ze_4 by_4 ⟨rfl, by decide⟩ N1 hb5 o5 ?_ ?_ ?_ ?_) | (first | with_reducible refine app_one sl_28 ze_5 by_5 ⟨rfl, by decide⟩ N1 hb4 o4 ?_ ?_ ?_ ?_ | with_reducible refine app_one sl_106 ze_4 by_4 ⟨rfl, by decide⟩ N1 hb4 o4 ?_ ?_ ?_ ?_) | (first | with_reducible refine app_one sl_28 ze_5 by_5 ⟨rfl, by decide⟩ N1 hb3 o3 ?_ ?_ ?_ ?_ | with_reducible refine app_one sl_106 ze_4 by_4 ⟨rfl, by decide⟩ N1 hb3 o3 ?_ ?_ ?_ ?_) | (first | with_reducible refine app_one sl_28 ze_5 by_5 ⟨rfl, by decide⟩ N1 hb2 o2 ?_ ?_ ?_ ?_ | with_reducible refine app_one sl_106 ze_4 by_4 ⟨rfl, by decide⟩ N1 hb2 o2 ?_ ?_ ?_ ?_) | (first | with_reducible refine app_one sl_28 ze_5 by_5 ⟨rfl, by decide⟩ N1 hb1 o1 ?_ ?_ ?_ ?_ | with_reducible refine app_one sl_106 ze_4 by_4 ⟨rfl, by decide⟩ N1 hb1 o1 ?_ ?_ ?_ ?_)); (focus rfl); (focus (simp only [List.toList_toArray, st_agg, ones_nil, ones_cons, oc_int, oc_bool, oc_str, oc_ptr, oc_sl, oc_map, Bool.and_true]; done)); (focus (constructor <;> first | omega | (simp only [maxLen]; omega))); intro A1 q1 m1 N1 k1; replace X := N1.ext; (try (replace z1 := k1 _ _ o1 z1; replace o1 := z1.1; replace z1 := z1.2; replace c1 := blk_facts hb1 o1)); (try (replace z2 := k1 _ _ o2 z2; replace o2 := z2.1; replace z2 := z2.2; replace c2 := blk_facts hb2 o2)); (try (replace z3 := k1 _ _ o3 z3; replace o3 := z3.1; replace z3 := z3.2; replace c3 := blk_facts hb3 o3)); (try (replace z4 := k1 _ _ o4 z4; replace o4 := z4.1; replace z4 := z4.2; replace c4 := blk_facts hb4 o4)); (try (replace z5 := k1 _ _ o5 z5; replace o5 := z5.1; replace z5 := z5.2; replace c5 := blk_facts hb5 o5)))
      | ((first | with_reducible refine rsl_hZ sl_28 ?_ ?_ ?_ | with_reducible refine rsl_hZ sl_106 ?_ ?_ ?_); (iterate 2 (focus (first | omega | (simp only [*] <;> omega)))))
      | ((first | with_reducible refine rsl_lZ sl_28 ?_ ?_ ?_ | with_reducible refine rsl_lZ sl_106 ?_ ?_ ?_); (iterate 2 (focus (first | omega | (simp only [*] <;> omega)))))
      | ((with_reducible refine CodeA.id ?_); (first | fail))
      | ((with_reducible refine And.intro ?_ ?_); (focus omega))
      | with_reducible refine cK_both _ _ _ _ _ _ (fun hc => ?_) (fun hc => ?_)
      | ((with_reducible refine gO_both _ _ (fun hc => ?_) (fun hc => ?_)) <;> (try simp only [Bool.not_true, Bool.not_false] at hc))
      | ((with_reducible refine gH_both _ _ (fun hc => ?_) (fun hc => ?_)) <;> (try simp only [Bool.not_true, Bool.not_false] at hc))
      | with_reducible refine pickK_both _ (fun hc => ?_) (fun hc => ?_))
end
end Go.Proofs.Ytapppaccnkojkaa.R
/- Slices of words that are handed in. No conditions. -/
set_option linter.unusedVariables false
set_option linter.unusedSimpArgs false
namespace Go.Proofs.Ytapppaccnkojkaa.R
open Go Go.RowKit
section
variable {W0 : World}
theorem RS.drop {m : Mem} {A : Option Addr} {n c : Nat} {xs : List Value} (h : RS W0 m (.slice A n c) 1 n xs) {k c' : Nat} (hk : k < n) : RS W0 m (.slice (A.map (·.add (k * 1))) (n - k) c') 1 (n - k) (xs.drop k) := by
  obtain ⟨hl, A', q, hv, h2⟩ := h
  cases hv
  refine ⟨by simp [hl], _, _, rfl, ?_⟩
  rcases h2 with rfl | ⟨a, rfl, h3⟩
  · simp at hl; omega
  · refine .inr ⟨_, rfl, fun j u hj => ?_⟩
    rw [List.getElem?_drop] at hj
    have h4 := h3 _ _ hj
    rw [Nat.mul_one]
    have e : (a.add k).add j = a.add (k + j) := by
      refine add_add a k j ?_
      have := h3 0 xs[0] (List.getElem?_eq_getElem (by omega))
      rw [add_zero'] at this
      exact cellA_spot this
    rw [e]; exact h4
theorem flat_eU8 : ∀ l : List Int, l.flatMap eU8 = u8 l
  | [] => rfl
  | x :: l => by rw [List.flatMap_cons, flat_eU8 l]; rfl
theorem Sl.u8rs {m : Mem} {s : Sl Int} (w : Sl.wf W0 1 eU8 inU8 s) : RS W0 m (.slice s.A s.l.length s.c) 1 s.l.length (u8 s.l) := by
  have := w.2.2.1 m
  rw [flat_eU8] at this
  exact this
theorem Sl.u8b {s : Sl Int} (w : Sl.wf W0 1 eU8 inU8 s) : Byte s.l := fun x hx => by have := w.2.2.2 x hx; unfold inU8 at this; omega
end
end Go.Proofs.Ytapppaccnkojkaa.R
