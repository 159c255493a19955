/- Layer 2, words of bits: what the reference and the messages do. No conditions. -/
import Derived.Test.YtapppaccnkojkaaSMajorReadsRW02
set_option linter.unusedVariables false
set_option linter.unusedSimpArgs false
namespace Go.Proofs.Ytapppaccnkojkaa.R
open Go Go.RowKit Go.Proofs.Ytapppaccnkojkaa
set_option maxRecDepth 100000
set_option maxHeartbeats 1000000
theorem tyAllRW02b : type_of% (And.intro (And.intro (And.intro ty_1 (And.intro ty_2 ty_3)) (And.intro (And.intro ty_4 ty_5) (And.intro ty_25 ty_26))) (And.intro (And.intro ty_27 (And.intro ty_28 ty_35)) (And.intro (And.intro ty_48 ty_62) (And.intro ty_63 ty_106)))) := (And.intro (And.intro (And.intro ty_1 (And.intro ty_2 ty_3)) (And.intro (And.intro ty_4 ty_5) (And.intro ty_25 ty_26))) (And.intro (And.intro ty_27 (And.intro ty_28 ty_35)) (And.intro (And.intro ty_48 ty_62) (And.intro ty_63 ty_106))))
section
variable {W0 : World}
/-- Bits as a number, the highest first. -/
def pv (bs : List Bool) : Int := bs.foldl (fun v b => 2 * v + if b then 1 else 0) 0
def packB (bs : List Bool) (i : Nat) : Int := pv ((bs.drop (8 * i)).take 8)
def pack (bs : List Bool) : List Int := (List.range (bs.length / 8)).map (packB bs)
theorem pv_snoc (bs : List Bool) (b : Bool) : pv (bs ++ [b]) = 2 * pv bs + if b then 1 else 0 := by simp [pv]
theorem pv_bound : ∀ (n : Nat) (bs : List Bool), bs.length = n → 0 ≤ pv bs ∧ pv bs < 2 ^ n := by
  intro n
  induction n with
  | zero => intro bs h; have := List.eq_nil_of_length_eq_zero h; subst this; simp [pv]
  | succ n ih =>
    intro bs h
    obtain ⟨l, b, rfl⟩ : ∃ l b, bs = l ++ [b] := ⟨bs.dropLast, bs.getLast (by intro e; subst e; simp at h), (List.dropLast_concat_getLast _).symm⟩
    have := ih l (by simpa using h)
    rw [pv_snoc, Int.pow_succ]
    split <;> omega
theorem pv_byte (bs : List Bool) (h : bs.length ≤ 8) : 0 ≤ pv bs ∧ pv bs < 256 := by
  have h1 := pv_bound _ bs rfl
  have h2 : (2 : Int) ^ bs.length ≤ 2 ^ 8 := by
    have := Nat.pow_le_pow_right (n := 2) (by decide) h
    exact_mod_cast this
  have : (2 : Int) ^ 8 = 256 := by decide
  omega
theorem pack_length (bs : List Bool) : (pack bs).length = bs.length / 8 := by simp [pack]
theorem pack_get (bs : List Bool) {i : Nat} (h : i < bs.length / 8) : (pack bs)[i]? = some (packB bs i) := by simp [pack, h]
theorem ref_Words {m : Mem} {K : Value → Mem → Prop} {v : Value} {n : Nat} {bs : List Bool} (hr : RS W0 m v 1 n (bl bs)) (hn : n ≤ 100000000) (h : ∀ v' m', NewS W0 m m' 5 1 v' (n / 8) (u8 (pack bs)) → K v' m') :
    CallA Try.prog W0 63 #[v] m K := by
  have hr0 := hr
  obtain ⟨hl, A, c, rfl, h0⟩ := hr
  rw [bl_length, Nat.mul_one] at hl
  refine en_63 (l := [.slice A n c]) (by simp [Try.ntmps63]) ?_
  simp only [Try.f63, Option.getD_some, vcCore, yieldT, Int.reduceEq, Int.reduceLT, Int.reduceLE, Int.reduceNe, not_true_eq_false, decide_true, decide_false, add_lit', Nat.zero_add, Nat.mul_one, Int.toNat_natCast, List.getElem?_toArray, List.getElem?_cons_zero, List.getElem?_cons_succ, Option.bind_some, List.map_cons, List.map_nil, List.map_toArray, Array.append_empty, Array.empty_append, List.append_nil, List.nil_append, List.append_toArray, ↓reduceIte, Nat.reduceEqDiff, Nat.reduceAdd, Nat.reduceLeDiff, List.contains_cons, List.contains_nil, Nat.reduceBEq, Bool.or_false, Bool.false_or, Bool.or_true, Bool.true_or, Bool.false_eq_true, Value.cells, List.size_toArray, List.length_cons, List.length_nil, Option.map_some, Option.map_none, Option.isSome_some, Option.isSome_none, Option.isNone_some, Option.isNone_none, true_and, and_true, ne_eq, reduceCtorEq, not_false_eq_true, Bool.not_true, Bool.not_false, tyAllRW02b, then_normal]
  refine loop_rule (fun d t m' => ∃ i : Nat, i ≤ n / 8 ∧ d = n / 8 - i ∧ t 0 = .slice A n c ∧ t 4 = .int .i64 (i : Int) ∧ NewS W0 m m' 5 1 (t 3) i (u8 ((pack bs).take i)))
    (n / 8) (by kernel_rfl) ⟨0, by omega, by omega, rfl, rfl, by
      show NewS W0 m m _ 1 (.slice none 0 0) 0 _
      simpa [u8] using NewS.nil m 5 1⟩ ?_
  rintro d t m' ⟨i, hi, rfl, h00, h4, h3⟩
  have hdv : IntKind.i64.wrap (((n : Int)).tdiv 8) = ((n / 8 : Nat) : Int) := by rw [tdiv_pos (by omega), w64 (by omega) (by omega)]; omega
  by_cases hlt : i < n / 8
  · have hlt' : (i : Int) < ((n / 8 : Nat) : Int) := by omega
    simp only [vcCore, yieldT, Int.reduceEq, Int.reduceLT, Int.reduceLE, Int.reduceNe, not_true_eq_false, decide_true, decide_false, add_lit', Nat.zero_add, Nat.mul_one, Int.toNat_natCast, List.getElem?_toArray, List.getElem?_cons_zero, List.getElem?_cons_succ, Option.bind_some, List.map_cons, List.map_nil, List.map_toArray, Array.append_empty, Array.empty_append, List.append_nil, List.nil_append, List.append_toArray, ↓reduceIte, Nat.reduceEqDiff, Nat.reduceAdd, Nat.reduceLeDiff, List.contains_cons, List.contains_nil, Nat.reduceBEq, Bool.or_false, Bool.false_or, Bool.or_true, Bool.true_or, Bool.false_eq_true, Value.cells, List.size_toArray, List.length_cons, List.length_nil, Option.map_some, Option.map_none, Option.isSome_some, Option.isSome_none, Option.isNone_some, Option.isNone_none, true_and, and_true, ne_eq, reduceCtorEq, not_false_eq_true, Bool.not_true, Bool.not_false, tyAllRW02b, then_normal, h00, h4, hdv, hlt']
    refine loop_rule (fun d t' m'' => m'' = m' ∧ ∃ k : Nat, k ≤ 8 ∧ d = 8 - k ∧ t' 0 = .slice A n c ∧ t' 3 = t 3 ∧ t' 4 = .int .i64 (i : Int) ∧ t' 6 = .int .i64 (k : Int) ∧ t' 5 = .int .i64 (pv ((bs.drop (8 * i)).take k)))
      8 (by kernel_rfl) ⟨rfl, 0, by omega, by omega, by simp only [vcCore, yieldT, Int.reduceEq, Int.reduceLT, Int.reduceLE, Int.reduceNe, not_true_eq_false, decide_true, decide_false, add_lit', Nat.zero_add, Nat.mul_one, Int.toNat_natCast, List.getElem?_toArray, List.getElem?_cons_zero, List.getElem?_cons_succ, Option.bind_some, List.map_cons, List.map_nil, List.map_toArray, Array.append_empty, Array.empty_append, List.append_nil, List.nil_append, List.append_toArray, ↓reduceIte, Nat.reduceEqDiff, Nat.reduceAdd, Nat.reduceLeDiff, List.contains_cons, List.contains_nil, Nat.reduceBEq, Bool.or_false, Bool.false_or, Bool.or_true, Bool.true_or, Bool.false_eq_true, Value.cells, List.size_toArray, List.length_cons, List.length_nil, Option.map_some, Option.map_none, Option.isSome_some, Option.isSome_none, Option.isNone_some, Option.isNone_none, true_and, and_true, ne_eq, reduceCtorEq, not_false_eq_true, Bool.not_true, Bool.not_false, tyAllRW02b]; exact h00, by simp only [vcCore, yieldT, Int.reduceEq, Int.reduceLT, Int.reduceLE, Int.reduceNe, not_true_eq_false, decide_true, decide_false, add_lit', Nat.zero_add, Nat.mul_one, Int.toNat_natCast, List.getElem?_toArray, List.getElem?_cons_zero, List.getElem?_cons_succ, Option.bind_some, List.map_cons, List.map_nil, List.map_toArray, Array.append_empty, Array.empty_append, List.append_nil, List.nil_append, List.append_toArray, ↓reduceIte, Nat.reduceEqDiff, Nat.reduceAdd, Nat.reduceLeDiff, List.contains_cons, List.contains_nil, Nat.reduceBEq, Bool.or_false, Bool.false_or, Bool.or_true, Bool.true_or, Bool.false_eq_true, Value.cells, List.size_toArray, List.length_cons, List.length_nil, Option.map_some, Option.map_none, Option.isSome_some, Option.isSome_none, Option.isNone_some, Option.isNone_none, true_and, and_true, ne_eq, reduceCtorEq, not_false_eq_true, Bool.not_true, Bool.not_false, tyAllRW02b], by simp only [vcCore, yieldT, Int.reduceEq, Int.reduceLT, Int.reduceLE, Int.reduceNe, not_true_eq_false, decide_true, decide_false, add_lit', Nat.zero_add, Nat.mul_one, Int.toNat_natCast, List.getElem?_toArray, List.getElem?_cons_zero, List.getElem?_cons_succ, Option.bind_some, List.map_cons, List.map_nil, List.map_toArray, Array.append_empty, Array.empty_append, List.append_nil, List.nil_append, List.append_toArray, ↓reduceIte, Nat.reduceEqDiff, Nat.reduceAdd, Nat.reduceLeDiff, List.contains_cons, List.contains_nil, Nat.reduceBEq, Bool.or_false, Bool.false_or, Bool.or_true, Bool.true_or, Bool.false_eq_true, Value.cells, List.size_toArray, List.length_cons, List.length_nil, Option.map_some, Option.map_none, Option.isSome_some, Option.isSome_none, Option.isNone_some, Option.isNone_none, true_and, and_true, ne_eq, reduceCtorEq, not_false_eq_true, Bool.not_true, Bool.not_false, tyAllRW02b]; exact h4, rfl, rfl⟩ ?_
    rintro d t' m'' ⟨rfl, k, hk, rfl, g0, g3, g4, g6, g5⟩
    have hpb := pv_byte ((bs.drop (8 * i)).take k) (by simp; omega)
    by_cases hk8 : k < 8
    · have hk' : (k : Int) < 8 := by omega
      obtain ⟨a, rfl, hc⟩ := RS.cell (hr0.ext h3.ext) (j := 8 * i + k) (by omega)
      have hg : bs[8 * i + k]? = some bs[8 * i + k] := by simp
      have hcell := hc (8 * i + k) (.bool bs[8 * i + k]) (by rw [bl_get]; simp)
      have e1 : IntKind.i64.wrap (8 * (i : Int)) = ((8 * i : Nat) : Int) := by rw [w64 (by omega) (by omega)]; omega
      have e2 : IntKind.i64.wrap (((8 * i : Nat) : Int) + (k : Int)) = ((8 * i + k : Nat) : Int) := by rw [w64 (by omega) (by omega)]; omega
      have e3 : IntKind.i64.wrap ((k : Int) + 1) = ((k + 1 : Nat) : Int) := by rw [w64 (by omega) (by omega)]; omega
      have e4 : IntKind.i64.wrap (2 * pv ((bs.drop (8 * i)).take k)) = 2 * pv ((bs.drop (8 * i)).take k) := w64 (by omega) (by omega)
      have e5 : IntKind.i64.wrap (2 * pv ((bs.drop (8 * i)).take k) + 1) = 2 * pv ((bs.drop (8 * i)).take k) + 1 := w64 (by omega) (by omega)
      have ht : (bs.drop (8 * i)).take (k + 1) = (bs.drop (8 * i)).take k ++ [bs[8 * i + k]] := by
        rw [List.take_succ_eq_append_getElem (by simp; omega)]; simp
      have hnn : ((8 * i + k : Nat) : Int) < (n : Int) := by omega
      cases hb : bs[8 * i + k] <;> rw [hb] at hcell ht <;>
        simp only [vcCore, yieldT, Int.reduceEq, Int.reduceLT, Int.reduceLE, Int.reduceNe, not_true_eq_false, decide_true, decide_false, add_lit', Nat.zero_add, Nat.mul_one, Int.toNat_natCast, List.getElem?_toArray, List.getElem?_cons_zero, List.getElem?_cons_succ, Option.bind_some, List.map_cons, List.map_nil, List.map_toArray, Array.append_empty, Array.empty_append, List.append_nil, List.nil_append, List.append_toArray, ↓reduceIte, Nat.reduceEqDiff, Nat.reduceAdd, Nat.reduceLeDiff, List.contains_cons, List.contains_nil, Nat.reduceBEq, Bool.or_false, Bool.false_or, Bool.or_true, Bool.true_or, Bool.false_eq_true, Value.cells, List.size_toArray, List.length_cons, List.length_nil, Option.map_some, Option.map_none, Option.isSome_some, Option.isSome_none, Option.isNone_some, Option.isNone_none, true_and, and_true, ne_eq, reduceCtorEq, not_false_eq_true, Bool.not_true, Bool.not_false, tyAllRW02b, then_normal, g0, g3, g4, g5, g6, hk', decide_true, e1, e2, e3, e4, e5, Int.toNat_natCast, Nat.mul_one, hcell]
      · refine ⟨hnn, 8 - (k + 1), by omega, rfl, k + 1, by omega, rfl, g0, g3, g4, rfl, ?_⟩
        rw [ht, pv_snoc]; simp only [vcCore, yieldT, Int.reduceEq, Int.reduceLT, Int.reduceLE, Int.reduceNe, not_true_eq_false, decide_true, decide_false, add_lit', Nat.zero_add, Nat.mul_one, Int.toNat_natCast, List.getElem?_toArray, List.getElem?_cons_zero, List.getElem?_cons_succ, Option.bind_some, List.map_cons, List.map_nil, List.map_toArray, Array.append_empty, Array.empty_append, List.append_nil, List.nil_append, List.append_toArray, ↓reduceIte, Nat.reduceEqDiff, Nat.reduceAdd, Nat.reduceLeDiff, List.contains_cons, List.contains_nil, Nat.reduceBEq, Bool.or_false, Bool.false_or, Bool.or_true, Bool.true_or, Bool.false_eq_true, Value.cells, List.size_toArray, List.length_cons, List.length_nil, Option.map_some, Option.map_none, Option.isSome_some, Option.isSome_none, Option.isNone_some, Option.isNone_none, true_and, and_true, ne_eq, reduceCtorEq, not_false_eq_true, Bool.not_true, Bool.not_false, tyAllRW02b, Int.add_zero]
      · refine ⟨hnn, 8 - (k + 1), by omega, rfl, k + 1, by omega, rfl, g0, g3, g4, rfl, ?_⟩
        rw [ht, pv_snoc]; simp only [vcCore, yieldT, Int.reduceEq, Int.reduceLT, Int.reduceLE, Int.reduceNe, not_true_eq_false, decide_true, decide_false, add_lit', Nat.zero_add, Nat.mul_one, Int.toNat_natCast, List.getElem?_toArray, List.getElem?_cons_zero, List.getElem?_cons_succ, Option.bind_some, List.map_cons, List.map_nil, List.map_toArray, Array.append_empty, Array.empty_append, List.append_nil, List.nil_append, List.append_toArray, ↓reduceIte, Nat.reduceEqDiff, Nat.reduceAdd, Nat.reduceLeDiff, List.contains_cons, List.contains_nil, Nat.reduceBEq, Bool.or_false, Bool.false_or, Bool.or_true, Bool.true_or, Bool.false_eq_true, Value.cells, List.size_toArray, List.length_cons, List.length_nil, Option.map_some, Option.map_none, Option.isSome_some, Option.isSome_none, Option.isNone_some, Option.isNone_none, true_and, and_true, ne_eq, reduceCtorEq, not_false_eq_true, Bool.not_true, Bool.not_false, tyAllRW02b, Int.add_zero]
    · have hk' : ¬ (k : Int) < 8 := by omega
      have : k = 8 := by omega
      subst this
      have hb8 : IntKind.u8.wrap (pv ((bs.drop (8 * i)).take 8)) = packB bs i := w8 hpb.1 (by omega)
      simp only [vcCore, yieldT, Int.reduceEq, Int.reduceLT, Int.reduceLE, Int.reduceNe, not_true_eq_false, decide_true, decide_false, add_lit', Nat.zero_add, Nat.mul_one, Int.toNat_natCast, List.getElem?_toArray, List.getElem?_cons_zero, List.getElem?_cons_succ, Option.bind_some, List.map_cons, List.map_nil, List.map_toArray, Array.append_empty, Array.empty_append, List.append_nil, List.nil_append, List.append_toArray, ↓reduceIte, Nat.reduceEqDiff, Nat.reduceAdd, Nat.reduceLeDiff, List.contains_cons, List.contains_nil, Nat.reduceBEq, Bool.or_false, Bool.false_or, Bool.or_true, Bool.true_or, Bool.false_eq_true, Value.cells, List.size_toArray, List.length_cons, List.length_nil, Option.map_some, Option.map_none, Option.isSome_some, Option.isSome_none, Option.isNone_some, Option.isNone_none, true_and, and_true, ne_eq, reduceCtorEq, not_false_eq_true, Bool.not_true, Bool.not_false, tyAllRW02b, then_normal, g0, g3, g4, g5, g6, hk', decide_false, hb8]
      refine rbuild sl_28 ze_5 (by decide) (by decide) (fill_one rfl) fun b hb => ?_
      simp only [vcCore, yieldT, Int.reduceEq, Int.reduceLT, Int.reduceLE, Int.reduceNe, not_true_eq_false, decide_true, decide_false, add_lit', Nat.zero_add, Nat.mul_one, Int.toNat_natCast, List.getElem?_toArray, List.getElem?_cons_zero, List.getElem?_cons_succ, Option.bind_some, List.map_cons, List.map_nil, List.map_toArray, Array.append_empty, Array.empty_append, List.append_nil, List.nil_append, List.append_toArray, ↓reduceIte, Nat.reduceEqDiff, Nat.reduceAdd, Nat.reduceLeDiff, List.contains_cons, List.contains_nil, Nat.reduceBEq, Bool.or_false, Bool.false_or, Bool.or_true, Bool.true_or, Bool.false_eq_true, Value.cells, List.size_toArray, List.length_cons, List.length_nil, Option.map_some, Option.map_none, Option.isSome_some, Option.isSome_none, Option.isNone_some, Option.isNone_none, true_and, and_true, ne_eq, reduceCtorEq, not_false_eq_true, Bool.not_true, Bool.not_false, tyAllRW02b, then_normal, g3]
      have h3' := h3.later (Ext.fresh hb (.cells #[.int .u8 (packB bs i)] 5))
      refine rappend sl_28 ze_5 by_5 rfl (by decide) h3'.own (k := 1) (news := [.int .u8 (packB bs i)]) (RS.block hb.le (Mem.set_same _ _ _) rfl) (by intro u hu; simp at hu; subst hu; rfl) (by unfold maxLen; omega) (by omega) ?_
      intro v' m2 o1 o2 o3
      have e3 : IntKind.i64.wrap ((i : Int) + 1) = ((i + 1 : Nat) : Int) := by rw [w64 (by omega) (by omega)]; omega
      simp only [vcCore, yieldT, Int.reduceEq, Int.reduceLT, Int.reduceLE, Int.reduceNe, not_true_eq_false, decide_true, decide_false, add_lit', Nat.zero_add, Nat.mul_one, Int.toNat_natCast, List.getElem?_toArray, List.getElem?_cons_zero, List.getElem?_cons_succ, Option.bind_some, List.map_cons, List.map_nil, List.map_toArray, Array.append_empty, Array.empty_append, List.append_nil, List.nil_append, List.append_toArray, ↓reduceIte, Nat.reduceEqDiff, Nat.reduceAdd, Nat.reduceLeDiff, List.contains_cons, List.contains_nil, Nat.reduceBEq, Bool.or_false, Bool.false_or, Bool.or_true, Bool.true_or, Bool.false_eq_true, Value.cells, List.size_toArray, List.length_cons, List.length_nil, Option.map_some, Option.map_none, Option.isSome_some, Option.isSome_none, Option.isNone_some, Option.isNone_none, true_and, and_true, ne_eq, reduceCtorEq, not_false_eq_true, Bool.not_true, Bool.not_false, tyAllRW02b, then_normal, g4, e3]
      refine ⟨n / 8 - (i + 1), by omega, i + 1, by omega, rfl, g0, rfl, ?_⟩
      have h5 := h3'.append o1 o2 o3
      have : u8 ((pack bs).take i) ++ [.int .u8 (packB bs i)] = u8 ((pack bs).take (i + 1)) := by
        rw [List.take_succ_eq_append_getElem (by rw [pack_length]; omega), u8, u8, List.map_append]
        simp [pack]
      rw [this] at h5
      exact h5
  · have hlt' : ¬ (i : Int) < ((n / 8 : Nat) : Int) := by omega
    simp only [vcCore, yieldT, Int.reduceEq, Int.reduceLT, Int.reduceLE, Int.reduceNe, not_true_eq_false, decide_true, decide_false, add_lit', Nat.zero_add, Nat.mul_one, Int.toNat_natCast, List.getElem?_toArray, List.getElem?_cons_zero, List.getElem?_cons_succ, Option.bind_some, List.map_cons, List.map_nil, List.map_toArray, Array.append_empty, Array.empty_append, List.append_nil, List.nil_append, List.append_toArray, ↓reduceIte, Nat.reduceEqDiff, Nat.reduceAdd, Nat.reduceLeDiff, List.contains_cons, List.contains_nil, Nat.reduceBEq, Bool.or_false, Bool.false_or, Bool.or_true, Bool.true_or, Bool.false_eq_true, Value.cells, List.size_toArray, List.length_cons, List.length_nil, Option.map_some, Option.map_none, Option.isSome_some, Option.isSome_none, Option.isNone_some, Option.isNone_none, true_and, and_true, ne_eq, reduceCtorEq, not_false_eq_true, Bool.not_true, Bool.not_false, tyAllRW02b, then_normal, h00, h4, hdv, hlt', decide_false, Nat.mul_one]
    refine h _ m' ?_
    have : i = n / 8 := by omega
    subst this
    rw [List.take_of_length_le (by rw [pack_length]; omega)] at h3
    exact h3
end
end Go.Proofs.Ytapppaccnkojkaa.R
/- Layer 2: putting a bit, and taking the whole. No conditions. -/
set_option linter.unusedVariables false
set_option linter.unusedSimpArgs false
namespace Go.Proofs.Ytapppaccnkojkaa.R
open Go Go.RowKit Go.Proofs.Ytapppaccnkojkaa
set_option maxRecDepth 100000
set_option maxHeartbeats 1000000
section
variable {W0 : World}
/-- A byte with one bit told. -/
def setB (x : Int) (k : Nat) (b : Bool) : Int :=
  let y := bits .andNot .u8 x (IntKind.u8.wrap (1 * 2 ^ (min (7 - k) 8)))
  if b then bits .or .u8 y (IntKind.u8.wrap (1 * 2 ^ (min (7 - k) 8))) else y
theorem setB_pv : ∀ (b0 b1 b2 b3 b4 b5 b6 b7 b : Bool) (k : Fin 8), setB (pv [b0, b1, b2, b3, b4, b5, b6, b7]) k.val b = pv ([b0, b1, b2, b3, b4, b5, b6, b7].set k.val b) := by decide +kernel
theorem setB_list (l : List Bool) (h : l.length = 8) {k : Nat} (hk : k < 8) (b : Bool) : setB (pv l) k b = pv (l.set k b) := by
  match l, h with
  | [b0, b1, b2, b3, b4, b5, b6, b7], _ => exact setB_pv b0 b1 b2 b3 b4 b5 b6 b7 b ⟨k, hk⟩
theorem packB_set (bs : List Bool) {n : Nat} (hn : n < bs.length) (h8 : 8 * (bs.length / 8) = bs.length) (b : Bool) (i : Nat) (hi : i < bs.length / 8) :
    packB (bs.set n b) i = if i = n / 8 then setB (packB bs i) (n % 8) b else packB bs i := by
  unfold packB
  rw [List.drop_set]
  split
  · rename_i h1
    rw [if_neg (by omega)]
  · rename_i h1
    rw [List.take_set]
    split
    · rename_i e
      subst e
      rw [setB_list _ (by simp; omega) (by omega)]
      congr 2
      omega
    · rename_i e
      rw [List.set_eq_of_length_le (by simp; omega)]
theorem pack_set (bs : List Bool) {n : Nat} (hn : n < bs.length) (h8 : 8 * (bs.length / 8) = bs.length) (b : Bool) : pack (bs.set n b) = (pack bs).set (n / 8) (setB (packB bs (n / 8)) (n % 8) b) := by
  apply List.ext_getElem?
  intro i
  rw [List.getElem?_set]
  by_cases hi : i < bs.length / 8
  · rw [pack_get _ (by simpa using hi), packB_set bs hn h8 b i hi, pack_get _ hi, pack_length]
    by_cases e : n / 8 = i
    · subst e; simp [hi]
    · have : ¬ i = n / 8 := fun h => e h.symm
      simp [e, this]
  · rw [List.getElem?_eq_none (by rw [pack_length]; simp; omega), List.getElem?_eq_none (by rw [pack_length]; omega)]
    have : ¬ n / 8 = i := by omega
    simp [this]
end
end Go.Proofs.Ytapppaccnkojkaa.R
/- Layer 2: bits of words, words of bits, a word that is known. No conditions. -/
set_option linter.unusedVariables false
set_option linter.unusedSimpArgs false
namespace Go.Proofs.Ytapppaccnkojkaa.R
open Go Go.RowKit Go.Proofs.Ytapppaccnkojkaa
set_option maxRecDepth 100000
set_option maxHeartbeats 1000000
theorem tyAllRW02d : type_of% (And.intro (And.intro (And.intro ty_1 (And.intro ty_2 ty_3)) (And.intro (And.intro ty_4 ty_5) (And.intro ty_6 ty_7))) (And.intro (And.intro (And.intro ty_8 ty_9) (And.intro ty_10 ty_28)) (And.intro (And.intro ty_36 ty_53) (And.intro ty_106 ty_120)))) := (And.intro (And.intro (And.intro ty_1 (And.intro ty_2 ty_3)) (And.intro (And.intro ty_4 ty_5) (And.intro ty_6 ty_7))) (And.intro (And.intro (And.intro ty_8 ty_9) (And.intro ty_10 ty_28)) (And.intro (And.intro ty_36 ty_53) (And.intro ty_106 ty_120))))
section
variable {W0 : World}
theorem pv_bit : ∀ (b0 b1 b2 b3 b4 b5 b6 b7 : Bool) (k : Fin 8), ([b0, b1, b2, b3, b4, b5, b6, b7])[k.val]! = false → bits .or .u8 (pv [b0, b1, b2, b3, b4, b5, b6, b7]) (IntKind.u8.wrap (1 * 2 ^ (min (7 - k.val) 8))) = setB (pv [b0, b1, b2, b3, b4, b5, b6, b7]) k.val true := by decide +kernel
theorem pv_or (l : List Bool) (h : l.length = 8) {k : Nat} (hk : k < 8) (h0 : l[k]? = some false) : bits .or .u8 (pv l) (IntKind.u8.wrap (1 * 2 ^ (min (7 - k) 8))) = setB (pv l) k true := by
  match l, h with
  | [b0, b1, b2, b3, b4, b5, b6, b7], _ => exact pv_bit b0 b1 b2 b3 b4 b5 b6 b7 ⟨k, hk⟩ (by simp only [List.getElem!_eq_getElem?_getD, h0]; rfl)
theorem word_Words {m : Mem} {K : Value → Mem → Prop} {v : Value} {n : Nat} {bs : List Bool} (hr : RS W0 m v 1 n (bl bs)) (hn : n ≤ 100000000)
    (h1 : n % 8 ≠ 0 → K (.tuple #[.slice none 0 0, .bool false]) m) (h : n % 8 = 0 → ∀ v' m', NewS W0 m m' 5 1 v' (n / 8) (u8 (pack bs)) → K (.tuple #[v', .bool true]) m') :
    CallA Try.prog W0 120 #[v] m K := by
  have hr0 := hr
  obtain ⟨hl, A, c, rfl, h0⟩ := hr
  rw [bl_length, Nat.mul_one] at hl
  refine en_120 (l := [.slice A n c]) (by simp [Try.ntmps120]) ?_
  have hmd : (n : Int).tmod 8 = ((n % 8 : Nat) : Int) := by rw [tmod_pos (by omega)]; omega
  have hd : IntKind.i64.wrap ((n : Int).tdiv 8) = ((n / 8 : Nat) : Int) := by rw [tdiv_pos (by omega), w64 (by omega) (by omega)]; omega
  by_cases hm : n % 8 = 0
  · have e0 : (((n % 8 : Nat) : Int) != 0) = false := by rw [hm]; rfl
    simp only [Try.f120, Option.getD_some, vcCore, yieldT, Int.reduceEq, Int.reduceLT, Int.reduceLE, Int.reduceNe, not_true_eq_false, decide_true, decide_false, add_lit', Nat.zero_add, Nat.mul_one, Int.toNat_natCast, List.getElem?_toArray, List.getElem?_cons_zero, List.getElem?_cons_succ, Option.bind_some, List.map_cons, List.map_nil, List.map_toArray, Array.append_empty, Array.empty_append, List.append_nil, List.nil_append, List.append_toArray, ↓reduceIte, Nat.reduceEqDiff, Nat.reduceAdd, Nat.reduceLeDiff, List.contains_cons, List.contains_nil, Nat.reduceBEq, Bool.or_false, Bool.false_or, Bool.or_true, Bool.true_or, Bool.false_eq_true, Value.cells, List.size_toArray, List.length_cons, List.length_nil, Option.map_some, Option.map_none, Option.isSome_some, Option.isSome_none, Option.isNone_some, Option.isNone_none, true_and, and_true, ne_eq, reduceCtorEq, not_false_eq_true, Bool.not_true, Bool.not_false, tyAllRW02d, then_normal, hmd, hd, e0]
    refine rmake sl_28 ze_5 by_5 (by unfold maxLen; omega) (by omega) fun b hf => ?_
    simp only [vcCore, yieldT, Int.reduceEq, Int.reduceLT, Int.reduceLE, Int.reduceNe, not_true_eq_false, decide_true, decide_false, add_lit', Nat.zero_add, Nat.mul_one, Int.toNat_natCast, List.getElem?_toArray, List.getElem?_cons_zero, List.getElem?_cons_succ, Option.bind_some, List.map_cons, List.map_nil, List.map_toArray, Array.append_empty, Array.empty_append, List.append_nil, List.nil_append, List.append_toArray, ↓reduceIte, Nat.reduceEqDiff, Nat.reduceAdd, Nat.reduceLeDiff, List.contains_cons, List.contains_nil, Nat.reduceBEq, Bool.or_false, Bool.false_or, Bool.or_true, Bool.true_or, Bool.false_eq_true, Value.cells, List.size_toArray, List.length_cons, List.length_nil, Option.map_some, Option.map_none, Option.isSome_some, Option.isSome_none, Option.isNone_some, Option.isNone_none, true_and, and_true, ne_eq, reduceCtorEq, not_false_eq_true, Bool.not_true, Bool.not_false, tyAllRW02d, then_normal]
    have hN := NewS.made (m := m) (e := 5) (z := .int .u8 0) hf (n := n / 8) (by unfold maxLen; omega)
    have hz : List.replicate (n / 8) (Value.int .u8 0) = u8 (pack (bs.take 0 ++ List.replicate (n - 0) false)) := by
      rw [List.take_zero, List.nil_append, u8, pack, List.length_replicate, Nat.sub_zero, List.map_map]
      apply List.ext_getElem?
      intro j
      by_cases hj : j < n / 8
      · have e : min 8 (n - 8 * j) = 8 := by omega
        have e1 : packB (List.replicate n false) j = 0 := by
          unfold packB; rw [List.drop_replicate, List.take_replicate, e]; rfl
        simp [hj, e1]
      · simp [hj]
    rw [hz] at hN
    refine loop_rule (fun d t m' => ∃ i : Nat, i ≤ n ∧ d = n - i ∧ t 4 = .slice (some ⟨b, 0, none⟩) (n / 8) (n / 8) ∧ t 15 = .slice A n c ∧ t 16 = .int .i64 (n : Int) ∧ t 17 = .int .i64 (i : Int) ∧
        NewS W0 m m' 5 1 (.slice (some ⟨b, 0, none⟩) (n / 8) (n / 8)) (n / 8) (u8 (pack (bs.take i ++ List.replicate (n - i) false))))
      n (by kernel_rfl) ⟨0, by omega, by omega, rfl, rfl, rfl, rfl, hN⟩ ?_
    rintro d t m' ⟨i, hi, rfl, h4, h15, h16, h17, hN⟩
    by_cases hlt : i < n
    · have hlt' : (i : Int) < (n : Int) := by omega
      have e3 : IntKind.i64.wrap ((i : Int) + 1) = ((i + 1 : Nat) : Int) := by rw [w64 (by omega) (by omega)]; omega
      obtain ⟨a, rfl, hc⟩ := RS.cell (hr0.ext hN.ext) (j := i) hlt
      have hcell := hc i (.bool bs[i]) (by rw [bl_get]; simp)
      have hcur : (bs.take i ++ List.replicate (n - i) false).length = n := by simp; omega
      have hnext : (bs.take i ++ List.replicate (n - i) false).set i bs[i] = bs.take (i + 1) ++ List.replicate (n - (i + 1)) false := by
        have h1 : (bs.take i).length = i := by simp; omega
        rw [List.set_append_right _ _ (by omega), h1, Nat.sub_self]
        rw [show n - i = (n - (i + 1)) + 1 by omega, List.replicate_succ, List.set_cons_zero, List.take_succ_eq_append_getElem (by omega), List.append_assoc]
        rfl
      have hps := pack_set (bs.take i ++ List.replicate (n - i) false) (n := i) (by omega) (by rw [hcur]; omega) bs[i]
      rw [hnext] at hps
      have hget0 : (bs.take i ++ List.replicate (n - i) false)[i]? = some false := by
        rw [List.getElem?_append_right (by simp; omega)]
        have h1 : (bs.take i).length = i := by simp; omega
        rw [h1, Nat.sub_self, List.getElem?_replicate, if_pos (by omega)]
      cases hb : bs[i] <;> rw [hb] at hcell hps hnext
      · simp only [vcCore, yieldT, Int.reduceEq, Int.reduceLT, Int.reduceLE, Int.reduceNe, not_true_eq_false, decide_true, decide_false, add_lit', Nat.zero_add, Nat.mul_one, Int.toNat_natCast, List.getElem?_toArray, List.getElem?_cons_zero, List.getElem?_cons_succ, Option.bind_some, List.map_cons, List.map_nil, List.map_toArray, Array.append_empty, Array.empty_append, List.append_nil, List.nil_append, List.append_toArray, ↓reduceIte, Nat.reduceEqDiff, Nat.reduceAdd, Nat.reduceLeDiff, List.contains_cons, List.contains_nil, Nat.reduceBEq, Bool.or_false, Bool.false_or, Bool.or_true, Bool.true_or, Bool.false_eq_true, Value.cells, List.size_toArray, List.length_cons, List.length_nil, Option.map_some, Option.map_none, Option.isSome_some, Option.isSome_none, Option.isNone_some, Option.isNone_none, true_and, and_true, ne_eq, reduceCtorEq, not_false_eq_true, Bool.not_true, Bool.not_false, tyAllRW02d, then_normal, h4, h15, h16, h17, hlt', hcell, e3]
        refine ⟨n - (i + 1), by omega, i + 1, by omega, rfl, h4, h15, h16, rfl, ?_⟩
        rw [← hnext]
        have : (bs.take i ++ List.replicate (n - i) false).set i false = bs.take i ++ List.replicate (n - i) false := by
          apply List.ext_getElem?
          intro j
          rw [List.getElem?_set]
          by_cases hj : i = j
          · subst hj; rw [hget0, if_pos rfl, if_pos (by omega)]
          · simp [hj]
        rw [this]; exact hN
      · have e5 : IntKind.i64.wrap ((i : Int).tdiv 8) = ((i / 8 : Nat) : Int) := by rw [tdiv_pos (by omega), w64 (by omega) (by omega)]; omega
        have e6 : (i : Int).tmod 8 = ((i % 8 : Nat) : Int) := by rw [tmod_pos (by omega)]; omega
        have e7 : IntKind.i64.wrap (7 - ((i % 8 : Nat) : Int)) = ((7 - i % 8 : Nat) : Int) := by rw [w64 (by omega) (by omega)]; omega
        have hi8 : i / 8 < n / 8 := by omega
        have hi8' : ((i / 8 : Nat) : Int) < ((n / 8 : Nat) : Int) := by omega
        simp only [vcCore, yieldT, Int.reduceEq, Int.reduceLT, Int.reduceLE, Int.reduceNe, not_true_eq_false, decide_true, decide_false, add_lit', Nat.zero_add, Nat.mul_one, Int.toNat_natCast, List.getElem?_toArray, List.getElem?_cons_zero, List.getElem?_cons_succ, Option.bind_some, List.map_cons, List.map_nil, List.map_toArray, Array.append_empty, Array.empty_append, List.append_nil, List.nil_append, List.append_toArray, ↓reduceIte, Nat.reduceEqDiff, Nat.reduceAdd, Nat.reduceLeDiff, List.contains_cons, List.contains_nil, Nat.reduceBEq, Bool.or_false, Bool.false_or, Bool.or_true, Bool.true_or, Bool.false_eq_true, Value.cells, List.size_toArray, List.length_cons, List.length_nil, Option.map_some, Option.map_none, Option.isSome_some, Option.isSome_none, Option.isNone_some, Option.isNone_none, true_and, and_true, ne_eq, reduceCtorEq, not_false_eq_true, Bool.not_true, Bool.not_false, tyAllRW02d, then_normal, h4, h15, h16, h17, hlt', hcell, e3]
        refine draw_any [0, 1, 2, 3, 4, 5, 6, 7, 8, 9, 10, 11] 11 [] mixed (by kernel_rfl) (by kernel_rfl) ?_
        obtain ⟨a2, ha2, hc2⟩ := RS.cell hN.own.reads hi8
        cases ha2
        have hcell2 := hc2 (i / 8) (.int .u8 (packB (bs.take i ++ List.replicate (n - i) false) (i / 8))) (by rw [u8_get, pack_get _ (by omega)]; rfl)
        rw [add_lit', Nat.zero_add] at hcell2
        have hor : bits .or .u8 (packB (bs.take i ++ List.replicate (n - i) false) (i / 8)) (IntKind.u8.wrap (1 * 2 ^ min (7 - i % 8) IntKind.u8.bits)) = setB (packB (bs.take i ++ List.replicate (n - i) false) (i / 8)) (i % 8) true := by
          refine pv_or _ (by simp; omega) (by omega) ?_
          rw [List.getElem?_take, if_pos (by omega), List.getElem?_drop, show 8 * (i / 8) + i % 8 = i by omega]
          exact hget0
        obtain ⟨cur, c1, c2, c3⟩ := hN.set hi8 (.int .u8 (setB (packB (bs.take i ++ List.replicate (n - i) false) (i / 8)) (i % 8) true))
        simp only [vcCore, yieldT, Int.reduceEq, Int.reduceLT, Int.reduceLE, Int.reduceNe, not_true_eq_false, decide_true, decide_false, add_lit', Nat.zero_add, Nat.mul_one, Int.toNat_natCast, List.getElem?_toArray, List.getElem?_cons_zero, List.getElem?_cons_succ, Option.bind_some, List.map_cons, List.map_nil, List.map_toArray, Array.append_empty, Array.empty_append, List.append_nil, List.nil_append, List.append_toArray, ↓reduceIte, Nat.reduceEqDiff, Nat.reduceAdd, Nat.reduceLeDiff, List.contains_cons, List.contains_nil, Nat.reduceBEq, Bool.or_false, Bool.false_or, Bool.or_true, Bool.true_or, Bool.false_eq_true, Value.cells, List.size_toArray, List.length_cons, List.length_nil, Option.map_some, Option.map_none, Option.isSome_some, Option.isSome_none, Option.isNone_some, Option.isNone_none, true_and, and_true, ne_eq, reduceCtorEq, not_false_eq_true, Bool.not_true, Bool.not_false, tyAllRW02d, then_normal, h4, h15, h16, h17, hlt', hcell2, e3, e5, e6, e7, hi8', hor, c1, c2]
        refine ⟨n - (i + 1), by omega, i + 1, by omega, rfl, h4, h15, h16, rfl, ?_⟩
        rw [hps]
        rw [u8_set] at c3
        exact c3
    · have hlt' : ¬ (i : Int) < (n : Int) := by omega
      simp only [vcCore, yieldT, Int.reduceEq, Int.reduceLT, Int.reduceLE, Int.reduceNe, not_true_eq_false, decide_true, decide_false, add_lit', Nat.zero_add, Nat.mul_one, Int.toNat_natCast, List.getElem?_toArray, List.getElem?_cons_zero, List.getElem?_cons_succ, Option.bind_some, List.map_cons, List.map_nil, List.map_toArray, Array.append_empty, Array.empty_append, List.append_nil, List.nil_append, List.append_toArray, ↓reduceIte, Nat.reduceEqDiff, Nat.reduceAdd, Nat.reduceLeDiff, List.contains_cons, List.contains_nil, Nat.reduceBEq, Bool.or_false, Bool.false_or, Bool.or_true, Bool.true_or, Bool.false_eq_true, Value.cells, List.size_toArray, List.length_cons, List.length_nil, Option.map_some, Option.map_none, Option.isSome_some, Option.isSome_none, Option.isNone_some, Option.isNone_none, true_and, and_true, ne_eq, reduceCtorEq, not_false_eq_true, Bool.not_true, Bool.not_false, tyAllRW02d, then_normal, h4, h15, h16, h17, hlt']
      refine h hm _ m' ?_
      have : i = n := by omega
      subst this
      rw [List.take_of_length_le (by omega), Nat.sub_self] at hN
      simpa using hN
  · have e0 : (((n % 8 : Nat) : Int) != 0) = true := by
      have : ((n % 8 : Nat) : Int) ≠ 0 := by omega
      simpa using this
    simp only [Try.f120, Option.getD_some, vcCore, yieldT, Int.reduceEq, Int.reduceLT, Int.reduceLE, Int.reduceNe, not_true_eq_false, decide_true, decide_false, add_lit', Nat.zero_add, Nat.mul_one, Int.toNat_natCast, List.getElem?_toArray, List.getElem?_cons_zero, List.getElem?_cons_succ, Option.bind_some, List.map_cons, List.map_nil, List.map_toArray, Array.append_empty, Array.empty_append, List.append_nil, List.nil_append, List.append_toArray, ↓reduceIte, Nat.reduceEqDiff, Nat.reduceAdd, Nat.reduceLeDiff, List.contains_cons, List.contains_nil, Nat.reduceBEq, Bool.or_false, Bool.false_or, Bool.or_true, Bool.true_or, Bool.false_eq_true, Value.cells, List.size_toArray, List.length_cons, List.length_nil, Option.map_some, Option.map_none, Option.isSome_some, Option.isSome_none, Option.isNone_some, Option.isNone_none, true_and, and_true, ne_eq, reduceCtorEq, not_false_eq_true, Bool.not_true, Bool.not_false, tyAllRW02d, then_normal, hmd, hd, e0]
    exact h1 hm
end
end Go.Proofs.Ytapppaccnkojkaa.R
