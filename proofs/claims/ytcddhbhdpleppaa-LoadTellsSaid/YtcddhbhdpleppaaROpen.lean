/- What the cells of a law's parameters read as, over the logic of partial memories. No conditions. -/
import Derived.Test.YtcddhbhdpleppaaRLib2
import Derived.ChangeArms
import Derived.ChangeSlices
import Derived.DataElems
import Derived.OpenShut
import Derived.WideShapes
set_option linter.unusedVariables false
namespace Go.Proofs.Ytcddhbhdpleppaa.R
open Go Go.ChangeShapes Go.WideShapes

/-- A slice that is handed in: where it lies, its room, its list. -/
structure Sl (α : Type) where
  A : Option Addr
  c : Nat
  l : List α
def Sl.v {α : Type} (s : Sl α) : Value := .slice s.A s.l.length s.c
def Sl.wf (W : World) (sz : Nat) {α : Type} (enc : α → List Value) (wf : α → Prop) (s : Sl α) : Prop :=
  s.l.length ≤ s.c ∧ s.l.length ≤ maxLen ∧ (∀ m, RS W m s.v sz s.l.length (s.l.flatMap enc)) ∧ ∀ a ∈ s.l, wf a
/-- What a type's cells read as. -/
structure Rd (P : Program) (W : World) (t : TypeId) (sz : Nat) {α : Type} (enc : α → List Value) (wf : α → Prop) : Prop where
  sz : P.cellsOf t = sz
  rd : ∀ {H : Type} (en : TypeId × Value → H) (base : Nat) (sp : Nat → Bool) (held : Bool) (fuel : Nat) (cs : List Value) (x : DataW H × List MemPlace),
    DataW.trod en P W base sp held fuel t cs = some x → ∃ a : α, cs = enc a ∧ wf a
def inI64 (n : Int) : Prop := -9223372036854775808 ≤ n ∧ n ≤ 9223372036854775807
def inU8 (n : Int) : Prop := 0 ≤ n ∧ n ≤ 255
theorem inI64_wf {n : Int} (h : (Lit.int .i64 n).wf = true) : inI64 n := by
  simp only [Lit.wf, Bool.and_eq_true, decide_eq_true_eq] at h
  exact h
theorem inU8_wf {n : Int} (h : (Lit.int .u8 n).wf = true) : inU8 n := by
  simp only [Lit.wf, Bool.and_eq_true, decide_eq_true_eq] at h
  exact h
def eI64 (n : Int) : List Value := [.int .i64 n]
def eU8 (n : Int) : List Value := [.int .u8 n]
def eB (b : Bool) : List Value := [.bool b]
def eS (b : ByteArray) : List Value := [.string b]
def eSl {α : Type} (s : Sl α) : List Value := [s.v]
theorem Rd.i64 {P : Program} {W : World} {t : TypeId} (ht : P.underlying t = some (.int .i64)) (hc : P.cellsOf t = 1) : Rd P W t 1 eI64 inI64 :=
  ⟨hc, fun en base sp held fuel cs x h => by
    obtain ⟨n, rfl, _, hw⟩ := DataW.trod_int ht h
    exact ⟨n, rfl, inI64_wf hw⟩⟩
theorem Rd.u8 {P : Program} {W : World} {t : TypeId} (ht : P.underlying t = some (.int .u8)) (hc : P.cellsOf t = 1) : Rd P W t 1 eU8 inU8 :=
  ⟨hc, fun en base sp held fuel cs x h => by
    obtain ⟨n, rfl, _, hw⟩ := DataW.trod_int ht h
    exact ⟨n, rfl, inU8_wf hw⟩⟩
theorem Rd.bool {P : Program} {W : World} {t : TypeId} (ht : P.underlying t = some .bool) (hc : P.cellsOf t = 1) : Rd P W t 1 eB (fun _ => True) :=
  ⟨hc, fun en base sp held fuel cs x h => by
    obtain ⟨n, rfl, _⟩ := DataW.trod_bool ht h
    exact ⟨n, rfl, trivial⟩⟩
theorem Rd.string {P : Program} {W : World} {t : TypeId} (ht : P.underlying t = some .string) (hc : P.cellsOf t = 1) : Rd P W t 1 eS (fun s => s.size ≤ maxLen) :=
  ⟨hc, fun en base sp held fuel cs x h => by
    obtain ⟨n, rfl, _, hm⟩ := DataW.trod_string ht h
    exact ⟨n, rfl, hm⟩⟩
theorem choose_list {α : Type} (R : Nat → α → Prop) : ∀ n : Nat, (∀ i, i < n → ∃ a, R i a) → ∃ l : List α, l.length = n ∧ ∀ i a, l[i]? = some a → R i a
  | 0, _ => ⟨[], rfl, fun i a h => by simp at h⟩
  | n + 1, h => by
    obtain ⟨l, hl, hr⟩ := choose_list R n (fun i hi => h i (by omega))
    obtain ⟨a, ha⟩ := h n (by omega)
    refine ⟨l ++ [a], by simp [hl], fun i b hb => ?_⟩
    by_cases hi : i < l.length
    · rw [List.getElem?_append_left hi] at hb
      exact hr i b hb
    · rw [List.getElem?_append_right (by omega)] at hb
      have h2 : i - l.length = 0 := by
        have := (List.getElem?_eq_some_iff.1 hb).1
        simp at this
        omega
      rw [h2] at hb
      simp at hb
      subst hb
      obtain rfl : i = n := by omega
      exact ha
/-- One cell of a row of parts. -/
theorem flat_at {α : Type} (f : α → List Value) (k : Nat) : ∀ (l : List α), (∀ x ∈ l, (f x).length = k) → (l.flatMap f).length = l.length * k ∧
    ∀ (j : Nat) (u : Value), (l.flatMap f)[j]? = some u → ∃ i r a, j = i * k + r ∧ l[i]? = some a ∧ (f a)[r]? = some u
  | [], _ => ⟨by simp, fun j u h => by simp at h⟩
  | y :: l, hf => by
    obtain ⟨h1, h2⟩ := flat_at f k l (fun x hx => hf x (List.mem_cons_of_mem _ hx))
    have hy := hf y (List.mem_cons_self ..)
    refine ⟨by rw [List.flatMap_cons, List.length_append, h1, hy, List.length_cons, Nat.add_mul]; omega, fun j u h => ?_⟩
    rw [List.flatMap_cons] at h
    by_cases hj : j < k
    · rw [List.getElem?_append_left (by omega)] at h
      exact ⟨0, j, y, by omega, rfl, h⟩
    · rw [List.getElem?_append_right (by omega), hy] at h
      obtain ⟨i, r, a, e, g1, g2⟩ := h2 _ _ h
      exact ⟨i + 1, r, a, by rw [Nat.add_mul]; omega, by simpa using g1, g2⟩
theorem slice_open {P : Program} {W : World} {t e : TypeId} {sz : Nat} {α : Type} {enc : α → List Value} {wf : α → Prop} (ht : P.underlying t = some (.slice e)) (hd : Rd P W e sz enc wf)
    {H : Type} {en : TypeId × Value → H} {base : Nat} {sp : Nat → Bool} {held : Bool} {fuel : Nat} {cs : List Value} {x : DataW H × List MemPlace}
    (h : DataW.trod en P W base sp held fuel t cs = some x) : ∃ s : Sl α, cs = eSl s ∧ s.wf W sz enc wf := by
  rcases DataW.trod_slice ht h with ⟨rfl, _⟩ | ⟨a, len, cap, elems, rest, n, _, rfl, _, hb, hl, hm, hlen, hel, _, _⟩
  · exact ⟨⟨none, 0, []⟩, rfl, by simp, by simp, fun m => ⟨by simp, none, 0, rfl, .inl (by simp)⟩, by simp⟩
  · have each : ∀ i, i < len → ∃ y : α, ((enc y).length = sz ∧ ∀ j u, (enc y)[j]? = some u → W.cell? (a.add (i * sz + j)) = some u) ∧ wf y := by
      intro i hi
      have h1 := hel i hi
      rw [List.getElem?_eq_getElem (show i < elems.length by omega), Option.bind_eq_some_iff] at h1
      obtain ⟨c, hc, ht2⟩ := h1
      obtain ⟨y, rfl, hw⟩ := hd.rd en base sp held n c _ ht2
      obtain ⟨_, hcl, hcc⟩ := World.cells?_some hc
      refine ⟨y, ⟨by rw [hcl, hd.sz], fun j u hu => ?_⟩, hw⟩
      have hj : j < P.cellsOf e := by
        have := (List.getElem?_eq_some_iff.1 hu).1
        omega
      have h2 := hcc j hj
      rw [hu, hd.sz] at h2
      rw [← h2, Addr.add_add]
    obtain ⟨l, hll, hr⟩ := choose_list _ len each
    subst hll
    obtain ⟨f1, f2⟩ := flat_at enc sz l fun y hy => by
      obtain ⟨i, hi⟩ := List.getElem?_of_mem hy
      exact (hr i y hi).1.1
    refine ⟨⟨some a, cap, l⟩, rfl, hl, Nat.le_trans hl hm, fun m => ⟨f1, _, _, rfl, .inr ⟨a, rfl, fun j u hj => ?_⟩⟩, fun y hy => ?_⟩
    · obtain ⟨i, r, y, rfl, g1, g2⟩ := f2 j u hj
      exact cellA_old ((hr i y g1).1.2 r u g2)
    · obtain ⟨i, hi⟩ := List.getElem?_of_mem hy
      exact (hr i y hi).2
theorem Rd.slice {P : Program} {W : World} {t e : TypeId} {sz : Nat} {α : Type} {enc : α → List Value} {wf : α → Prop} (ht : P.underlying t = some (.slice e)) (hc : P.cellsOf t = 1) (hd : Rd P W e sz enc wf) : Rd P W t 1 eSl (Sl.wf W sz enc wf) :=
  ⟨hc, fun en base sp held fuel cs x h => slice_open ht hd h⟩
/-- A struct's field. -/
theorem field_open {P : Program} {t : TypeId} {fs : Array Field} (ht : P.underlying t = some (.struct fs)) {H : Type} {enc : TypeId × Value → H} {w : World} {base : Nat} {sp : Nat → Bool} {held : Bool} {fuel : Nat} {cs : List Value} {x : DataW H × List MemPlace}
    (h : DataW.trod enc P w base sp held fuel t cs = some x) : cs.length = P.cellsOf t ∧ ∀ (i : Nat) (f : Field), fs[i]? = some f → ∃ n y, DataW.trod enc P w base sp held n f.type ((cs.drop f.offset).take (P.cellsOf f.type)) = some y := by
  obtain ⟨xs, n, _, _, hl, hx, hf⟩ := DataW.trod_struct ht h
  refine ⟨hl, fun i f hi => ⟨n, xs[i]'(by have := (Array.getElem?_eq_some_iff.1 hi).1; omega), ?_⟩⟩
  rw [hf i f hi, List.getElem?_eq_getElem]
/-- An array's element. -/
theorem elem_open {P : Program} {t e : TypeId} {m : Nat} (ht : P.underlying t = some (.array m e)) {H : Type} {enc : TypeId × Value → H} {w : World} {base : Nat} {sp : Nat → Bool} {held : Bool} {fuel : Nat} {cs : List Value} {x : DataW H × List MemPlace}
    (h : DataW.trod enc P w base sp held fuel t cs = some x) : cs.length = P.cellsOf t ∧ ∀ (i : Nat), i < m → ∃ n y, DataW.trod enc P w base sp held n e ((cs.drop (i * P.cellsOf e)).take (P.cellsOf e)) = some y := by
  obtain ⟨xs, n, _, _, hl, hx, hf⟩ := DataW.trod_array ht h
  refine ⟨hl, fun i hi => ⟨n, xs[i]'(by omega), ?_⟩⟩
  rw [hf i hi, List.getElem?_eq_getElem]
/-- A struct's (or an array's) value is its cells. -/
theorem agg_open {P : Program} {t : TypeId} {w : World} {r : Reach} {base : Nat} {v : Value} (ht : (∃ fs, P.underlying t = some (.struct fs)) ∨ ∃ n e, P.underlying t = some (.array n e)) (h : Value.okWide P w r base t v) : ∃ cs : List Value, v = .agg cs.toArray ∧ v.cells.toList = cs ∧ cs.length = P.cellsOf t := by
  rcases ht with ⟨fs, ht⟩ | ⟨n, e, ht⟩ <;>
  · simp only [Value.okWide, ht] at h
    obtain ⟨cs, rfl, h2, _⟩ := h
    exact ⟨cs.toList, by simp, by simp [Value.cells], by simpa using h2⟩
theorem cons_of {α : Type} {n : Nat} {l : List α} (h : l.length = n + 1) : ∃ c r, l = c :: r ∧ r.length = n := by
  cases l with
  | nil => simp at h
  | cons c r => exact ⟨c, r, rfl, by simpa using h⟩
theorem nil_of {α : Type} {l : List α} (h : l.length = 0) : l = [] := List.eq_nil_of_length_eq_zero h
end Go.Proofs.Ytcddhbhdpleppaa.R
