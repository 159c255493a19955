/- The faults' layer, over the logic of partial memories. No conditions. -/
import Derived.Test.YtcddhbhdpleppaaSBusSettlesRW18
set_option linter.unusedVariables false
set_option linter.unusedSimpArgs false
namespace Go.Proofs.Ytcddhbhdpleppaa.R
open Go Go.RowKit Go.Proofs.Ytcddhbhdpleppaa
set_option maxRecDepth 100000
set_option maxHeartbeats 8000000
theorem tyAllRW20 : type_of% (And.intro (And.intro ty_3 (And.intro ty_4 ty_5)) (And.intro (And.intro ty_23 ty_24) (And.intro ty_25 ty_30))) := (And.intro (And.intro ty_3 (And.intro ty_4 ty_5)) (And.intro (And.intro ty_23 ty_24) (And.intro ty_25 ty_30)))
section
variable {W0 : World}
/-- A fault, its pattern's slice and bytes. -/
structure Flt where
  kind : Int
  module : Int
  y : Bool
  line : Int
  frm : Int
  A : Option Addr
  c : Nat
  ps : List Int
def Flt.arr (f : Flt) : Array Value := #[.int .i64 f.kind, .int .i64 f.module, .bool f.y, .int .i64 f.line, .int .i64 f.frm, .slice f.A f.ps.length f.c]
abbrev Flt.v (f : Flt) : Value := .agg #[.int .i64 f.kind, .int .i64 f.module, .bool f.y, .int .i64 f.line, .int .i64 f.frm, .slice f.A f.ps.length f.c]
/-- Its pattern reads, here and later; its numbers are small. -/
structure Flt.ok (W0 : World) (m : Mem) (f : Flt) : Prop where
  reads : RS W0 m (.slice f.A f.ps.length f.c) 1 f.ps.length (u8 f.ps)
  byte : Byte f.ps
  lo : 0 ≤ f.frm
  hi : f.frm ≤ 1000000000000
  le : f.ps.length ≤ 1000000000000
theorem Flt.ok.ext {m m' : Mem} {f : Flt} (F : f.ok W0 m) (e : Ext m m') : f.ok W0 m' := ⟨F.reads.ext e, F.byte, F.lo, F.hi, F.le⟩
def Flt.here (f : Flt) (tick : Int) : Bool := (f.kind == 1 || f.kind == 2) && decide (f.frm ≤ tick) && decide (0 < f.ps.length)
def Flt.at (f : Flt) (tick : Int) : Int := if f.here tick then f.ps.getD ((tick - f.frm) % f.ps.length).toNat 0 else 0
theorem Flt.at_u8 {f : Flt} (hb : Byte f.ps) (tick : Int) : U8 (f.at tick) := by
  unfold Flt.at
  split
  · rw [List.getD_eq_getElem?_getD]
    cases h : f.ps[((tick - f.frm) % f.ps.length).toNat]? with
    | none => simp [U8]
    | some x => exact hb.get h
  · simp [U8]
theorem fault_At {m : Mem} {K : Value → Mem → Prop} {f : Flt} (F : f.ok W0 m) {tick : Int} (h1 : -1000000000000 ≤ tick) (h2 : tick ≤ 1000000000000)
    (h : ∀ m', Ext m m' → K (.tuple #[.int .u8 (f.at tick), .bool (f.here tick)]) m') : CallA Try.prog W0 150 #[f.v, .int .i64 tick] m K := by
  refine en_150 (l := [f.v, .int .i64 tick]) (by simp [Try.ntmps150]) ?_
  simp (maxSteps := 2000000) only [Try.f150, Option.getD_some, vcCore, yieldT, Int.reduceEq, Int.reduceLT, Int.reduceLE, Int.reduceNe, not_true_eq_false, decide_true, decide_false, add_lit', Nat.zero_add, Nat.mul_one, Int.toNat_natCast, List.getElem?_toArray, List.getElem?_cons_zero, List.getElem?_cons_succ, Option.bind_some, List.map_cons, List.map_nil, List.map_toArray, Array.append_empty, Array.empty_append, List.append_nil, List.nil_append, List.append_toArray, ↓reduceIte, Nat.reduceEqDiff, Nat.reduceAdd, Nat.reduceLeDiff, List.contains_cons, List.contains_nil, Nat.reduceBEq, Bool.or_false, Bool.false_or, Bool.or_true, Bool.true_or, Bool.false_eq_true, Value.cells, List.size_toArray, List.length_cons, List.length_nil, Option.map_some, Option.map_none, Option.isSome_some, Option.isSome_none, Option.isNone_some, Option.isNone_none, true_and, and_true, ne_eq, reduceCtorEq, not_false_eq_true, Bool.not_true, Bool.not_false, tyAllRW20, then_normal, Flt.v]
  intro b hb
  have F' := F.ext (Ext.fresh hb (.cells f.arr 25))
  have hx := Ext.fresh hb (.cells f.arr 25)
  have hm : (m.set b (.cells f.arr 25)) b = some (.cells f.arr 25) := Mem.set_same _ _ _
  have c0 : cellA W0 (m.set b (.cells f.arr 25)) ⟨b, 0, none⟩ = some (.int .i64 f.kind) := cellA_own hb.le hm rfl
  have c4 : cellA W0 (m.set b (.cells f.arr 25)) ⟨b, 4, none⟩ = some (.int .i64 f.frm) := cellA_own hb.le hm rfl
  have c5 : cellA W0 (m.set b (.cells f.arr 25)) ⟨b, 5, none⟩ = some (.slice f.A f.ps.length f.c) := cellA_own hb.le hm rfl
  rw [show (Obj.cells #[.int .i64 f.kind, .int .i64 f.module, .bool f.y, .int .i64 f.line, .int .i64 f.frm, .slice f.A f.ps.length f.c] 25) = .cells f.arr 25 from rfl]
  have hno : f.here tick = false → K (.tuple #[.int .u8 0, .bool false]) (m.set b (.cells f.arr 25)) := fun e => by
    have := h _ hx
    unfold Flt.at at this
    rw [e] at this
    exact this
  by_cases hk : f.kind = 1 ∨ f.kind = 2
  · have hk12 : (f.kind == 1 || f.kind == 2) = true := by rcases hk with e | e <;> simp [e]
    have go : ∀ T : Exit → Env → Mem → Prop, True := fun _ => trivial
    by_cases ht : tick < f.frm
    · have := hno (by unfold Flt.here; rw [show decide (f.frm ≤ tick) = false from decide_eq_false (by omega)]; simp)
      rcases hk with hk | hk <;> simp (maxSteps := 2000000) only [vcCore, yieldT, Int.reduceEq, Int.reduceLT, Int.reduceLE, Int.reduceNe, not_true_eq_false, decide_true, decide_false, add_lit', Nat.zero_add, Nat.mul_one, Int.toNat_natCast, List.getElem?_toArray, List.getElem?_cons_zero, List.getElem?_cons_succ, Option.bind_some, List.map_cons, List.map_nil, List.map_toArray, Array.append_empty, Array.empty_append, List.append_nil, List.nil_append, List.append_toArray, ↓reduceIte, Nat.reduceEqDiff, Nat.reduceAdd, Nat.reduceLeDiff, List.contains_cons, List.contains_nil, Nat.reduceBEq, Bool.or_false, Bool.false_or, Bool.or_true, Bool.true_or, Bool.false_eq_true, Value.cells, List.size_toArray, List.length_cons, List.length_nil, Option.map_some, Option.map_none, Option.isSome_some, Option.isSome_none, Option.isNone_some, Option.isNone_none, true_and, and_true, ne_eq, reduceCtorEq, not_false_eq_true, Bool.not_true, Bool.not_false, tyAllRW20, then_normal, c0, c4, c5, hk, Int.cast_ofNat_Int, BEq.rfl, bne_self_eq_false, beq_self_eq_true, Bool.and_true, Bool.true_and, Bool.and_false, Bool.false_and, Int.reduceBEq, Int.reduceBNe, Nat.reduceMul, Nat.reduceDiv, Int.reduceToNat, Int.reduceNeg, Int.reduceAdd, Int.reduceSub, Int.reduceMul, ht, Int.reduceBNe, Int.reduceBEq]
      · exact this
      · exact this
    · by_cases hz : f.ps.length = 0
      · have := hno (by simp [Flt.here, hz])
        have hz' : ((f.ps.length : Nat) : Int) = 0 := by omega
        rcases hk with hk | hk <;> simp (maxSteps := 2000000) only [vcCore, yieldT, Int.reduceEq, Int.reduceLT, Int.reduceLE, Int.reduceNe, not_true_eq_false, decide_true, decide_false, add_lit', Nat.zero_add, Nat.mul_one, Int.toNat_natCast, List.getElem?_toArray, List.getElem?_cons_zero, List.getElem?_cons_succ, Option.bind_some, List.map_cons, List.map_nil, List.map_toArray, Array.append_empty, Array.empty_append, List.append_nil, List.nil_append, List.append_toArray, ↓reduceIte, Nat.reduceEqDiff, Nat.reduceAdd, Nat.reduceLeDiff, List.contains_cons, List.contains_nil, Nat.reduceBEq, Bool.or_false, Bool.false_or, Bool.or_true, Bool.true_or, Bool.false_eq_true, Value.cells, List.size_toArray, List.length_cons, List.length_nil, Option.map_some, Option.map_none, Option.isSome_some, Option.isSome_none, Option.isNone_some, Option.isNone_none, true_and, and_true, ne_eq, reduceCtorEq, not_false_eq_true, Bool.not_true, Bool.not_false, tyAllRW20, then_normal, c0, c4, c5, hk, Int.cast_ofNat_Int, BEq.rfl, bne_self_eq_false, beq_self_eq_true, Bool.and_true, Bool.true_and, Bool.and_false, Bool.false_and, Int.reduceBEq, Int.reduceBNe, Nat.reduceMul, Nat.reduceDiv, Int.reduceToNat, Int.reduceNeg, Int.reduceAdd, Int.reduceSub, Int.reduceMul, ht, hz', Int.reduceBNe, Int.reduceBEq]
        · exact this
        · exact this
      · have hz' : (((f.ps.length : Nat) : Int) == 0) = false := by rw [beq_eq_false_iff_ne]; omega
        have hyes := h _ hx
        have hh : f.here tick = true := by unfold Flt.here; rw [hk12, decide_eq_true (show f.frm ≤ tick by omega), decide_eq_true (show 0 < f.ps.length by omega)]; rfl
        unfold Flt.at at hyes
        rw [hh] at hyes
        have hsub : IntKind.i64.wrap (tick - f.frm) = tick - f.frm := w64 (by have := F.hi; omega) (by have := F.lo; omega)
        have hmod : (tick - f.frm).tmod ((f.ps.length : Nat) : Int) = (tick - f.frm) % ((f.ps.length : Nat) : Int) := tmod_pos (by omega)
        have hnz : ((f.ps.length : Nat) : Int) ≠ 0 := by omega
        have hm0 : 0 ≤ (tick - f.frm) % ((f.ps.length : Nat) : Int) := Int.emod_nonneg _ hnz
        have hm1 : (tick - f.frm) % ((f.ps.length : Nat) : Int) < ((f.ps.length : Nat) : Int) := Int.emod_lt_of_pos _ (by omega)
        have hwm : IntKind.i64.wrap ((tick - f.frm) % ((f.ps.length : Nat) : Int)) = (tick - f.frm) % ((f.ps.length : Nat) : Int) := w64 (by omega) (by have := F.le; omega)
        obtain ⟨a, hA, hcell⟩ := RS.cell F'.reads (j := ((tick - f.frm) % ((f.ps.length : Nat) : Int)).toNat) (by omega)
        have hcell2 := hcell ((tick - f.frm) % ((f.ps.length : Nat) : Int)).toNat (.int .u8 (f.ps.getD ((tick - f.frm) % ((f.ps.length : Nat) : Int)).toNat 0)) (by
          rw [u8_get, List.getD_eq_getElem?_getD, List.getElem?_eq_getElem (by omega)]; rfl)
        rw [hA] at c5
        rcases hk with hk | hk <;> simp (maxSteps := 2000000) only [vcCore, yieldT, Int.reduceEq, Int.reduceLT, Int.reduceLE, Int.reduceNe, not_true_eq_false, decide_true, decide_false, add_lit', Nat.zero_add, Nat.mul_one, Int.toNat_natCast, List.getElem?_toArray, List.getElem?_cons_zero, List.getElem?_cons_succ, Option.bind_some, List.map_cons, List.map_nil, List.map_toArray, Array.append_empty, Array.empty_append, List.append_nil, List.nil_append, List.append_toArray, ↓reduceIte, Nat.reduceEqDiff, Nat.reduceAdd, Nat.reduceLeDiff, List.contains_cons, List.contains_nil, Nat.reduceBEq, Bool.or_false, Bool.false_or, Bool.or_true, Bool.true_or, Bool.false_eq_true, Value.cells, List.size_toArray, List.length_cons, List.length_nil, Option.map_some, Option.map_none, Option.isSome_some, Option.isSome_none, Option.isNone_some, Option.isNone_none, true_and, and_true, ne_eq, reduceCtorEq, not_false_eq_true, Bool.not_true, Bool.not_false, tyAllRW20, then_normal, c0, c4, c5, hk, Int.cast_ofNat_Int, BEq.rfl, bne_self_eq_false, beq_self_eq_true, Bool.and_true, Bool.true_and, Bool.and_false, Bool.false_and, Int.reduceBEq, Int.reduceBNe, Nat.reduceMul, Nat.reduceDiv, Int.reduceToNat, Int.reduceNeg, Int.reduceAdd, Int.reduceSub, Int.reduceMul, ht, hz', Int.reduceBNe, Int.reduceBEq]
        · refine draw_any (List.range 14) 100 [] mixed (by kernel_rfl) (by kernel_rfl) ?_
          simp (maxSteps := 2000000) only [show List.range 14 = [0, 1, 2, 3, 4, 5, 6, 7, 8, 9, 10, 11, 12, 13] from rfl, vcCore, yieldT, Int.reduceEq, Int.reduceLT, Int.reduceLE, Int.reduceNe, not_true_eq_false, decide_true, decide_false, add_lit', Nat.zero_add, Nat.mul_one, Int.toNat_natCast, List.getElem?_toArray, List.getElem?_cons_zero, List.getElem?_cons_succ, Option.bind_some, List.map_cons, List.map_nil, List.map_toArray, Array.append_empty, Array.empty_append, List.append_nil, List.nil_append, List.append_toArray, ↓reduceIte, Nat.reduceEqDiff, Nat.reduceAdd, Nat.reduceLeDiff, List.contains_cons, List.contains_nil, Nat.reduceBEq, Bool.or_false, Bool.false_or, Bool.or_true, Bool.true_or, Bool.false_eq_true, Value.cells, List.size_toArray, List.length_cons, List.length_nil, Option.map_some, Option.map_none, Option.isSome_some, Option.isSome_none, Option.isNone_some, Option.isNone_none, true_and, and_true, ne_eq, reduceCtorEq, not_false_eq_true, Bool.not_true, Bool.not_false, tyAllRW20, then_normal, c0, c4, c5, hsub, hmod, hwm, hnz, hcell2]
          exact ⟨hm0, hm1, hyes⟩
        · refine draw_any (List.range 14) 100 [] mixed (by kernel_rfl) (by kernel_rfl) ?_
          simp (maxSteps := 2000000) only [show List.range 14 = [0, 1, 2, 3, 4, 5, 6, 7, 8, 9, 10, 11, 12, 13] from rfl, vcCore, yieldT, Int.reduceEq, Int.reduceLT, Int.reduceLE, Int.reduceNe, not_true_eq_false, decide_true, decide_false, add_lit', Nat.zero_add, Nat.mul_one, Int.toNat_natCast, List.getElem?_toArray, List.getElem?_cons_zero, List.getElem?_cons_succ, Option.bind_some, List.map_cons, List.map_nil, List.map_toArray, Array.append_empty, Array.empty_append, List.append_nil, List.nil_append, List.append_toArray, ↓reduceIte, Nat.reduceEqDiff, Nat.reduceAdd, Nat.reduceLeDiff, List.contains_cons, List.contains_nil, Nat.reduceBEq, Bool.or_false, Bool.false_or, Bool.or_true, Bool.true_or, Bool.false_eq_true, Value.cells, List.size_toArray, List.length_cons, List.length_nil, Option.map_some, Option.map_none, Option.isSome_some, Option.isSome_none, Option.isNone_some, Option.isNone_none, true_and, and_true, ne_eq, reduceCtorEq, not_false_eq_true, Bool.not_true, Bool.not_false, tyAllRW20, then_normal, c0, c4, c5, hsub, hmod, hwm, hnz, hcell2]
          exact ⟨hm0, hm1, hyes⟩
  · have k1 : (f.kind == 1) = false := by simp; omega
    have k2 : (f.kind == 2) = false := by simp; omega
    have := hno (by simp [Flt.here, k1, k2])
    have hk1 : (f.kind != 1) = true := by simp; omega
    have hk2 : (f.kind != 2) = true := by simp; omega
    simp (maxSteps := 2000000) only [vcCore, yieldT, Int.reduceEq, Int.reduceLT, Int.reduceLE, Int.reduceNe, not_true_eq_false, decide_true, decide_false, add_lit', Nat.zero_add, Nat.mul_one, Int.toNat_natCast, List.getElem?_toArray, List.getElem?_cons_zero, List.getElem?_cons_succ, Option.bind_some, List.map_cons, List.map_nil, List.map_toArray, Array.append_empty, Array.empty_append, List.append_nil, List.nil_append, List.append_toArray, ↓reduceIte, Nat.reduceEqDiff, Nat.reduceAdd, Nat.reduceLeDiff, List.contains_cons, List.contains_nil, Nat.reduceBEq, Bool.or_false, Bool.false_or, Bool.or_true, Bool.true_or, Bool.false_eq_true, Value.cells, List.size_toArray, List.length_cons, List.length_nil, Option.map_some, Option.map_none, Option.isSome_some, Option.isSome_none, Option.isNone_some, Option.isNone_none, true_and, and_true, ne_eq, reduceCtorEq, not_false_eq_true, Bool.not_true, Bool.not_false, tyAllRW20, then_normal, c0, c4, c5, hk1, hk2, Int.cast_ofNat_Int, BEq.rfl, bne_self_eq_false, beq_self_eq_true, Bool.and_true, Bool.true_and, Bool.and_false, Bool.false_and, Int.reduceBEq, Int.reduceBNe, Nat.reduceMul, Nat.reduceDiv, Int.reduceToNat, Int.reduceNeg, Int.reduceAdd, Int.reduceSub, Int.reduceMul]
    exact this
def Flt.lines (f : Flt) (l tick : Int) : Int :=
  if f.here tick && f.kind == 1 then (if bits .and .u8 (f.at tick) 3 = 0 then setL l f.line false else if bits .and .u8 (f.at tick) 3 = 1 then setL l f.line true else l) else l
def Flt.drives (f : Flt) (module : Int) (y : Bool) (tick : Int) : Bool := f.here tick && (f.kind == 2 && f.module == module) && f.y == y && bits .and .u8 (f.at tick) 8 == 0
theorem fault_Lines {m : Mem} {K : Value → Mem → Prop} {f : Flt} (F : f.ok W0 m) {l tick : Int} (h1 : -1000000000000 ≤ tick) (h2 : tick ≤ 1000000000000)
    (h : ∀ m', Ext m m' → K (.int .u8 (f.lines l tick)) m') : CallA Try.prog W0 93 #[f.v, .int .u8 l, .int .i64 tick] m K := by
  refine en_93 (l := [f.v, .int .u8 l, .int .i64 tick]) (by simp [Try.ntmps93]) ?_
  simp (maxSteps := 2000000) only [Try.f93, Option.getD_some, vcCore, yieldT, Int.reduceEq, Int.reduceLT, Int.reduceLE, Int.reduceNe, not_true_eq_false, decide_true, decide_false, add_lit', Nat.zero_add, Nat.mul_one, Int.toNat_natCast, List.getElem?_toArray, List.getElem?_cons_zero, List.getElem?_cons_succ, Option.bind_some, List.map_cons, List.map_nil, List.map_toArray, Array.append_empty, Array.empty_append, List.append_nil, List.nil_append, List.append_toArray, ↓reduceIte, Nat.reduceEqDiff, Nat.reduceAdd, Nat.reduceLeDiff, List.contains_cons, List.contains_nil, Nat.reduceBEq, Bool.or_false, Bool.false_or, Bool.or_true, Bool.true_or, Bool.false_eq_true, Value.cells, List.size_toArray, List.length_cons, List.length_nil, Option.map_some, Option.map_none, Option.isSome_some, Option.isSome_none, Option.isNone_some, Option.isNone_none, true_and, and_true, ne_eq, reduceCtorEq, not_false_eq_true, Bool.not_true, Bool.not_false, tyAllRW20, then_normal, Flt.v]
  intro b hb
  rw [show (Obj.cells #[.int .i64 f.kind, .int .i64 f.module, .bool f.y, .int .i64 f.line, .int .i64 f.frm, .slice f.A f.ps.length f.c] 25) = .cells f.arr 25 from rfl]
  have F' := F.ext (Ext.fresh hb (.cells f.arr 25))
  have hx := Ext.fresh hb (.cells f.arr 25)
  have hm : (m.set b (.cells f.arr 25)) b = some (.cells f.arr 25) := Mem.set_same _ _ _
  have call : cellsA W0 (m.set b (.cells f.arr 25)) ⟨b, 0, none⟩ 6 = some f.arr := cellsA_block hb.le hm rfl
  have c0 : cellA W0 (m.set b (.cells f.arr 25)) ⟨b, 0, none⟩ = some (.int .i64 f.kind) := cellA_own hb.le hm rfl
  have c3 : cellA W0 (m.set b (.cells f.arr 25)) ⟨b, 3, none⟩ = some (.int .i64 f.line) := cellA_own hb.le hm rfl
  simp (maxSteps := 2000000) only [vcCore, yieldT, Int.reduceEq, Int.reduceLT, Int.reduceLE, Int.reduceNe, not_true_eq_false, decide_true, decide_false, add_lit', Nat.zero_add, Nat.mul_one, Int.toNat_natCast, List.getElem?_toArray, List.getElem?_cons_zero, List.getElem?_cons_succ, Option.bind_some, List.map_cons, List.map_nil, List.map_toArray, Array.append_empty, Array.empty_append, List.append_nil, List.nil_append, List.append_toArray, ↓reduceIte, Nat.reduceEqDiff, Nat.reduceAdd, Nat.reduceLeDiff, List.contains_cons, List.contains_nil, Nat.reduceBEq, Bool.or_false, Bool.false_or, Bool.or_true, Bool.true_or, Bool.false_eq_true, Value.cells, List.size_toArray, List.length_cons, List.length_nil, Option.map_some, Option.map_none, Option.isSome_some, Option.isSome_none, Option.isNone_some, Option.isNone_none, true_and, and_true, ne_eq, reduceCtorEq, not_false_eq_true, Bool.not_true, Bool.not_false, tyAllRW20, then_normal, call]
  refine fault_At F' h1 h2 fun m' e => ?_
  replace c0 := cellA_ext e c0
  replace c3 := cellA_ext e c3
  have hend := h m' (hx.trans e)
  unfold Flt.lines at hend
  cases hh : f.here tick
  · rw [hh] at hend
    simp (maxSteps := 2000000) only [vcCore, yieldT, Int.reduceEq, Int.reduceLT, Int.reduceLE, Int.reduceNe, not_true_eq_false, decide_true, decide_false, add_lit', Nat.zero_add, Nat.mul_one, Int.toNat_natCast, List.getElem?_toArray, List.getElem?_cons_zero, List.getElem?_cons_succ, Option.bind_some, List.map_cons, List.map_nil, List.map_toArray, Array.append_empty, Array.empty_append, List.append_nil, List.nil_append, List.append_toArray, ↓reduceIte, Nat.reduceEqDiff, Nat.reduceAdd, Nat.reduceLeDiff, List.contains_cons, List.contains_nil, Nat.reduceBEq, Bool.or_false, Bool.false_or, Bool.or_true, Bool.true_or, Bool.false_eq_true, Value.cells, List.size_toArray, List.length_cons, List.length_nil, Option.map_some, Option.map_none, Option.isSome_some, Option.isSome_none, Option.isNone_some, Option.isNone_none, true_and, and_true, ne_eq, reduceCtorEq, not_false_eq_true, Bool.not_true, Bool.not_false, tyAllRW20, then_normal]
    exact hend
  · rw [hh] at hend
    by_cases hk : f.kind = 1
    · rw [hk] at c0 hend
      simp (maxSteps := 2000000) only [vcCore, yieldT, Int.reduceEq, Int.reduceLT, Int.reduceLE, Int.reduceNe, not_true_eq_false, decide_true, decide_false, add_lit', Nat.zero_add, Nat.mul_one, Int.toNat_natCast, List.getElem?_toArray, List.getElem?_cons_zero, List.getElem?_cons_succ, Option.bind_some, List.map_cons, List.map_nil, List.map_toArray, Array.append_empty, Array.empty_append, List.append_nil, List.nil_append, List.append_toArray, ↓reduceIte, Nat.reduceEqDiff, Nat.reduceAdd, Nat.reduceLeDiff, List.contains_cons, List.contains_nil, Nat.reduceBEq, Bool.or_false, Bool.false_or, Bool.or_true, Bool.true_or, Bool.false_eq_true, Value.cells, List.size_toArray, List.length_cons, List.length_nil, Option.map_some, Option.map_none, Option.isSome_some, Option.isSome_none, Option.isNone_some, Option.isNone_none, true_and, and_true, ne_eq, reduceCtorEq, not_false_eq_true, Bool.not_true, Bool.not_false, tyAllRW20, then_normal, c0, Int.cast_ofNat_Int, BEq.rfl, bne_self_eq_false, beq_self_eq_true, Bool.and_true, Bool.true_and, Bool.and_false, Bool.false_and, Int.reduceBEq, Int.reduceBNe, Nat.reduceMul, Nat.reduceDiv, Int.reduceToNat, Int.reduceNeg, Int.reduceAdd, Int.reduceSub, Int.reduceMul, Int.reduceBNe]
      by_cases z0 : bits .and .u8 (f.at tick) 3 = 0
      · simp only [z0, Int.cast_ofNat_Int, BEq.rfl, bne_self_eq_false, beq_self_eq_true, Bool.and_true, Bool.true_and, Bool.and_false, Bool.false_and, Int.reduceBEq, Int.reduceBNe, Nat.reduceMul, Nat.reduceDiv, Int.reduceToNat, Int.reduceNeg, Int.reduceAdd, Int.reduceSub, Int.reduceMul, if_true] at hend
        simp (maxSteps := 2000000) only [vcCore, yieldT, Int.reduceEq, Int.reduceLT, Int.reduceLE, Int.reduceNe, not_true_eq_false, decide_true, decide_false, add_lit', Nat.zero_add, Nat.mul_one, Int.toNat_natCast, List.getElem?_toArray, List.getElem?_cons_zero, List.getElem?_cons_succ, Option.bind_some, List.map_cons, List.map_nil, List.map_toArray, Array.append_empty, Array.empty_append, List.append_nil, List.nil_append, List.append_toArray, ↓reduceIte, Nat.reduceEqDiff, Nat.reduceAdd, Nat.reduceLeDiff, List.contains_cons, List.contains_nil, Nat.reduceBEq, Bool.or_false, Bool.false_or, Bool.or_true, Bool.true_or, Bool.false_eq_true, Value.cells, List.size_toArray, List.length_cons, List.length_nil, Option.map_some, Option.map_none, Option.isSome_some, Option.isSome_none, Option.isNone_some, Option.isNone_none, true_and, and_true, ne_eq, reduceCtorEq, not_false_eq_true, Bool.not_true, Bool.not_false, tyAllRW20, then_normal, c3, z0, Int.cast_ofNat_Int, BEq.rfl, bne_self_eq_false, beq_self_eq_true, Bool.and_true, Bool.true_and, Bool.and_false, Bool.false_and, Int.reduceBEq, Int.reduceBNe, Nat.reduceMul, Nat.reduceDiv, Int.reduceToNat, Int.reduceNeg, Int.reduceAdd, Int.reduceSub, Int.reduceMul]
        refine wires_Set ?_
        simp (maxSteps := 2000000) only [vcCore, yieldT, Int.reduceEq, Int.reduceLT, Int.reduceLE, Int.reduceNe, not_true_eq_false, decide_true, decide_false, add_lit', Nat.zero_add, Nat.mul_one, Int.toNat_natCast, List.getElem?_toArray, List.getElem?_cons_zero, List.getElem?_cons_succ, Option.bind_some, List.map_cons, List.map_nil, List.map_toArray, Array.append_empty, Array.empty_append, List.append_nil, List.nil_append, List.append_toArray, ↓reduceIte, Nat.reduceEqDiff, Nat.reduceAdd, Nat.reduceLeDiff, List.contains_cons, List.contains_nil, Nat.reduceBEq, Bool.or_false, Bool.false_or, Bool.or_true, Bool.true_or, Bool.false_eq_true, Value.cells, List.size_toArray, List.length_cons, List.length_nil, Option.map_some, Option.map_none, Option.isSome_some, Option.isSome_none, Option.isNone_some, Option.isNone_none, true_and, and_true, ne_eq, reduceCtorEq, not_false_eq_true, Bool.not_true, Bool.not_false, tyAllRW20, then_normal]
        exact hend
      · have z0' : (bits .and .u8 (f.at tick) 3 == 0) = false := by simpa using z0
        by_cases z1 : bits .and .u8 (f.at tick) 3 = 1
        · simp (maxSteps := 2000000) only [vcCore, yieldT, Int.reduceEq, Int.reduceLT, Int.reduceLE, Int.reduceNe, not_true_eq_false, decide_true, decide_false, add_lit', Nat.zero_add, Nat.mul_one, Int.toNat_natCast, List.getElem?_toArray, List.getElem?_cons_zero, List.getElem?_cons_succ, Option.bind_some, List.map_cons, List.map_nil, List.map_toArray, Array.append_empty, Array.empty_append, List.append_nil, List.nil_append, List.append_toArray, ↓reduceIte, Nat.reduceEqDiff, Nat.reduceAdd, Nat.reduceLeDiff, List.contains_cons, List.contains_nil, Nat.reduceBEq, Bool.or_false, Bool.false_or, Bool.or_true, Bool.true_or, Bool.false_eq_true, Value.cells, List.size_toArray, List.length_cons, List.length_nil, Option.map_some, Option.map_none, Option.isSome_some, Option.isSome_none, Option.isNone_some, Option.isNone_none, true_and, and_true, ne_eq, reduceCtorEq, not_false_eq_true, Bool.not_true, Bool.not_false, tyAllRW20, then_normal, c3, z1, Int.cast_ofNat_Int, BEq.rfl, bne_self_eq_false, beq_self_eq_true, Bool.and_true, Bool.true_and, Bool.and_false, Bool.false_and, Int.reduceBEq, Int.reduceBNe, Nat.reduceMul, Nat.reduceDiv, Int.reduceToNat, Int.reduceNeg, Int.reduceAdd, Int.reduceSub, Int.reduceMul]
          simp only [z1, Int.cast_ofNat_Int, BEq.rfl, bne_self_eq_false, beq_self_eq_true, Bool.and_true, Bool.true_and, Bool.and_false, Bool.false_and, Int.reduceBEq, Int.reduceBNe, Nat.reduceMul, Nat.reduceDiv, Int.reduceToNat, Int.reduceNeg, Int.reduceAdd, Int.reduceSub, Int.reduceMul, if_true] at hend
          refine wires_Set ?_
          simp (maxSteps := 2000000) only [vcCore, yieldT, Int.reduceEq, Int.reduceLT, Int.reduceLE, Int.reduceNe, not_true_eq_false, decide_true, decide_false, add_lit', Nat.zero_add, Nat.mul_one, Int.toNat_natCast, List.getElem?_toArray, List.getElem?_cons_zero, List.getElem?_cons_succ, Option.bind_some, List.map_cons, List.map_nil, List.map_toArray, Array.append_empty, Array.empty_append, List.append_nil, List.nil_append, List.append_toArray, ↓reduceIte, Nat.reduceEqDiff, Nat.reduceAdd, Nat.reduceLeDiff, List.contains_cons, List.contains_nil, Nat.reduceBEq, Bool.or_false, Bool.false_or, Bool.or_true, Bool.true_or, Bool.false_eq_true, Value.cells, List.size_toArray, List.length_cons, List.length_nil, Option.map_some, Option.map_none, Option.isSome_some, Option.isSome_none, Option.isNone_some, Option.isNone_none, true_and, and_true, ne_eq, reduceCtorEq, not_false_eq_true, Bool.not_true, Bool.not_false, tyAllRW20, then_normal]
          exact hend
        · have z1' : (bits .and .u8 (f.at tick) 3 == 1) = false := by simpa using z1
          simp (maxSteps := 2000000) only [vcCore, yieldT, Int.reduceEq, Int.reduceLT, Int.reduceLE, Int.reduceNe, not_true_eq_false, decide_true, decide_false, add_lit', Nat.zero_add, Nat.mul_one, Int.toNat_natCast, List.getElem?_toArray, List.getElem?_cons_zero, List.getElem?_cons_succ, Option.bind_some, List.map_cons, List.map_nil, List.map_toArray, Array.append_empty, Array.empty_append, List.append_nil, List.nil_append, List.append_toArray, ↓reduceIte, Nat.reduceEqDiff, Nat.reduceAdd, Nat.reduceLeDiff, List.contains_cons, List.contains_nil, Nat.reduceBEq, Bool.or_false, Bool.false_or, Bool.or_true, Bool.true_or, Bool.false_eq_true, Value.cells, List.size_toArray, List.length_cons, List.length_nil, Option.map_some, Option.map_none, Option.isSome_some, Option.isSome_none, Option.isNone_some, Option.isNone_none, true_and, and_true, ne_eq, reduceCtorEq, not_false_eq_true, Bool.not_true, Bool.not_false, tyAllRW20, then_normal, c3, z0', z1', Int.cast_ofNat_Int, BEq.rfl, bne_self_eq_false, beq_self_eq_true, Bool.and_true, Bool.true_and, Bool.and_false, Bool.false_and, Int.reduceBEq, Int.reduceBNe, Nat.reduceMul, Nat.reduceDiv, Int.reduceToNat, Int.reduceNeg, Int.reduceAdd, Int.reduceSub, Int.reduceMul]
          simp only [z0, z1, Int.cast_ofNat_Int, BEq.rfl, bne_self_eq_false, beq_self_eq_true, Bool.and_true, Bool.true_and, Bool.and_false, Bool.false_and, Int.reduceBEq, Int.reduceBNe, Nat.reduceMul, Nat.reduceDiv, Int.reduceToNat, Int.reduceNeg, Int.reduceAdd, Int.reduceSub, Int.reduceMul, if_true, if_false] at hend
          exact hend
    · have hk1 : (f.kind != 1) = true := by simp; omega
      have hk2 : (f.kind == 1) = false := by simp; omega
      rw [hk2] at hend
      simp (maxSteps := 2000000) only [vcCore, yieldT, Int.reduceEq, Int.reduceLT, Int.reduceLE, Int.reduceNe, not_true_eq_false, decide_true, decide_false, add_lit', Nat.zero_add, Nat.mul_one, Int.toNat_natCast, List.getElem?_toArray, List.getElem?_cons_zero, List.getElem?_cons_succ, Option.bind_some, List.map_cons, List.map_nil, List.map_toArray, Array.append_empty, Array.empty_append, List.append_nil, List.nil_append, List.append_toArray, ↓reduceIte, Nat.reduceEqDiff, Nat.reduceAdd, Nat.reduceLeDiff, List.contains_cons, List.contains_nil, Nat.reduceBEq, Bool.or_false, Bool.false_or, Bool.or_true, Bool.true_or, Bool.false_eq_true, Value.cells, List.size_toArray, List.length_cons, List.length_nil, Option.map_some, Option.map_none, Option.isSome_some, Option.isSome_none, Option.isNone_some, Option.isNone_none, true_and, and_true, ne_eq, reduceCtorEq, not_false_eq_true, Bool.not_true, Bool.not_false, tyAllRW20, then_normal, c0, hk1, Int.cast_ofNat_Int, BEq.rfl, bne_self_eq_false, beq_self_eq_true, Bool.and_true, Bool.true_and, Bool.and_false, Bool.false_and, Int.reduceBEq, Int.reduceBNe, Nat.reduceMul, Nat.reduceDiv, Int.reduceToNat, Int.reduceNeg, Int.reduceAdd, Int.reduceSub, Int.reduceMul]
      exact hend
end
end Go.Proofs.Ytcddhbhdpleppaa.R
