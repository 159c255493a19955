/- Structs and arrays that are built out of parts. No conditions. -/
import Derived.Test.YtcddhbhdpleppaaRCode
namespace Go.Proofs.Ytcddhbhdpleppaa.R
open Go Go.RowKit
set_option linter.unusedVariables false
set_option linter.unusedSimpArgs false
def bldStep (o : Option (Nat × Nat)) (z : Array Value) (v : Value) (k : Array Value → Option (Array Value)) : Option (Array Value) :=
  match o with
  | some (off, size) => if v.cells.size = size ∧ off + size ≤ z.size then k (wr z off v.cells.toList) else none
  | none => none
theorem bldStep_some (off size : Nat) (z : Array Value) (v : Value) (k : Array Value → Option (Array Value)) : bldStep (some (off, size)) z v k = if v.cells.size = size ∧ off + size ≤ z.size then k (wr z off v.cells.toList) else none := nd rfl
def bld (z : Array Value) (pl : List (Nat × Nat)) : List (Nat × Value) → Option (Array Value)
  | [] => some z
  | (i, v) :: rest => bldStep pl[i]? z v fun z' => bld z' pl rest
theorem bld_nil (z : Array Value) (pl : List (Nat × Nat)) : bld z pl [] = some z := nd rfl
theorem bld_cons (z : Array Value) (pl : List (Nat × Nat)) (i : Nat) (v : Value) (rest : List (Nat × Value)) : bld z pl ((i, v) :: rest) = bldStep pl[i]? z v fun z' => bld z' pl rest := nd rfl
theorem wr_cons {c : List Value} {o : Nat} {x : Value} {xs : List Value} (h : o < c.length) : wr c.toArray o (x :: xs) = wr (c.set o x).toArray (o + 1) xs := by
  unfold wr
  congr 1
  have e1 : (c.set o x).take (o + 1) = c.take o ++ [x] := by
    rw [List.take_add_one, List.take_set_of_le (Nat.le_refl _), List.getElem?_set]; simp [h]
  have e2 : (c.set o x).drop (o + 1 + xs.length) = c.drop (o + (xs.length + 1)) := by
    rw [List.drop_set_of_lt (by omega), show o + 1 + xs.length = o + (xs.length + 1) by omega]
  show c.take o ++ x :: xs ++ c.drop (o + (x :: xs).length) = (c.set o x).take (o + 1) ++ xs ++ (c.set o x).drop (o + 1 + xs.length)
  rw [e1, e2, List.length_cons]; simp
theorem fold_wr : ∀ (xs : List Value) (off k : Nat) (c : List Value), off + k + xs.length ≤ c.length →
    (xs.zipIdx k).foldl (fun cs p => cs.setIfInBounds (off + p.2) p.1) c.toArray = wr c.toArray (off + k) xs
  | [], off, k, c, h => by simp [wr]
  | x :: xs, off, k, c, h => by
    simp only [List.length_cons] at h
    rw [List.zipIdx_cons, List.foldl_cons, wr_cons (by omega)]
    show List.foldl _ (c.toArray.setIfInBounds (off + k) x) _ = _
    rw [List.setIfInBounds_toArray, fold_wr xs off (k + 1) (c.set (off + k) x) (by simp; omega)]
    rfl
theorem fill_bld {place : Nat → Option (Nat × Nat)} {pl : List (Nat × Nat)} {n : Nat} (hp : ∀ i, place i = pl[i]? ∨ (pl[i]? = none ∧ ∃ o s, place i = some (o, s) ∧ n < o + s)) :
    ∀ (parts : List (Nat × Value)) (z : Array Value), z.size = n → Instr.fill place z parts = bld z pl parts
  | [], z, _ => rfl
  | (i, v) :: rest, z, hz => by
    unfold Instr.fill
    rw [bld_cons]
    rcases hp i with h | ⟨h1, o, s, h2, h3⟩
    · rw [h]
      cases hi : pl[i]? with
      | none => rfl
      | some p =>
        obtain ⟨off, size⟩ := p
        rw [bldStep_some]
        by_cases hv : v.cells.size = size
        · by_cases hle : off + size ≤ z.size
          · rw [if_pos ⟨hv, hle⟩]
            have hc : (v.cells.size ≠ size || off + v.cells.size > z.size) = false := by simp [hv]; omega
            simp only [hc, Bool.false_eq_true, if_false]
            have e : (v.cells.zipIdx.foldl (fun cs (x : Value × Nat) => match x with | (c, j) => cs.setIfInBounds (off + j) c) z) = wr z off v.cells.toList := by
              have := fold_wr v.cells.toList off 0 z.toList (by simp; omega)
              rw [← Array.foldl_toList, Array.toList_zipIdx]
              simpa using this
            rw [e]
            exact fill_bld hp rest _ (by
              simp only [wr, List.size_toArray, List.length_append, List.length_take, List.length_drop, Array.length_toList]
              omega)
          · rw [if_neg (fun h => hle h.2)]
            have hc : (v.cells.size ≠ size || off + v.cells.size > z.size) = true := by simp [hv]; omega
            simp only [hc, if_true]
        · rw [if_neg (fun h => hv h.1)]
          have hc : (v.cells.size ≠ size || off + v.cells.size > z.size) = true := by simp [hv]
          simp only [hc, if_true]
    · rw [h2, h1]
      show (if (v.cells.size ≠ s || o + v.cells.size > z.size) = true then _ else _) = none
      have hc : (v.cells.size ≠ s || o + v.cells.size > z.size) = true := by
        by_cases e : v.cells.size = s
        · simp [e]; omega
        · simp [e]
      simp only [hc, if_true]
def placesOf (P : Program) (t : TypeId) : Option (List (Nat × Nat)) :=
  match P.underlying t with
  | some (.array n e) => (szOf P e).map fun s => (List.range n).map fun i => (i * s, s)
  | some (.struct fs) => fs.toList.mapM fun f => (P.info? f.type).map fun i => (f.offset, i.size)
  | _ => none
/-- an array's elements are of one cell at least, and fill it -/
def arrFull (P : Program) (t : TypeId) (z : Array Value) : Bool := match P.underlying t with | some (.array n e) => (match szOf P e with | some s => decide (0 < s) && decide (n * s = z.size) | none => false) | _ => true
theorem built_bld {P : Program} {t : TypeId} {z : Array Value} {pl : List (Nat × Nat)} (hz : zeroOf P t = some z) (hp : placesOf P t = some pl) (hf : arrFull P t z = true) (parts : List (Nat × Value)) : P.built t parts = bld z pl parts := by
  unfold zeroOf at hz
  unfold placesOf at hp
  unfold arrFull at hf
  unfold Program.built
  cases hi : P.info? t with
  | none => simp [hi] at hz
  | some it =>
    simp only [hi, Option.bind_some] at hz
    cases hzz : it.zero with
    | none => simp [hzz] at hz
    | some zv =>
      simp only [hzz, Option.map_some, Option.some.injEq] at hz
      subst hz
      cases hu : P.underlying t with
      | none => simp [hu] at hp
      | some d =>
        cases d <;> simp only [hu] at hp hf <;> try (cases hp)
        · rename_i n e
          simp only [Option.map_eq_some_iff] at hp
          obtain ⟨s, hs, rfl⟩ := hp
          simp only [hs, Bool.and_eq_true, decide_eq_true_eq] at hf
          unfold szOf at hs
          cases hie : P.info? e with
          | none => simp [hie] at hs
          | some ie =>
            simp only [hie, Option.map_some, Option.some.injEq] at hs
            subst hs
            simp only [hzz, hie]
            refine fill_bld (n := zv.cells.size) (fun i => ?_) parts _ rfl
            by_cases hi : i < n
            · left; simp [hi]
            · right
              refine ⟨by simp; omega, i * ie.size, ie.size, rfl, ?_⟩
              have : n * ie.size ≤ i * ie.size := Nat.mul_le_mul_right _ (by omega)
              omega
        · rename_i fs
          simp only [hzz, hp]
          exact fill_bld (n := zv.cells.size) (fun i => .inl (by simp)) parts _ rfl
end Go.Proofs.Ytcddhbhdpleppaa.R
