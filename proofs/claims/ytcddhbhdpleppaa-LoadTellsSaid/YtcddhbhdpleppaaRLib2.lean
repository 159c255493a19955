/- Copies, strings, parts of slices, over the logic of partial memories. No conditions. -/
import Derived.Test.YtcddhbhdpleppaaRArith
import Derived.Laws.BytesString
import Derived.Laws.Slices
import Derived.Laws.Strings
namespace Go.Proofs.Ytcddhbhdpleppaa.R
open Go Go.RowKit
set_option linter.unusedVariables false
set_option linter.unusedSimpArgs false
section
variable {P : Program} {W0 : World}
/-- 'copy' into a block of the call's own. -/
theorem rcopy {dT sT ty e : TypeId} {m : Mem} {g o dl dc : Nat} {A : Option Addr} {sl sc : Nat} {cur : Array Value} {t : TypeId} {cs : List Value} {K : Value → Mem → Prop}
    (hsl : slOf P dT = some (e, 1)) (hm : m g = some (.cells cur t)) (hn : cs.length = Nat.min sl dl) (hsrc : cs = [] ∨ ∃ a, A = some a ∧ ∀ j u, cs[j]? = some u → cellA W0 m (a.add j) = some u)
    (hfit : o + cs.length ≤ cur.size) (h1 : ∀ v ∈ cs, v.oneCell' = true) (hk : K (.int .i64 cs.length) (m.set g (.cells (wr cur o cs) t))) :
    RunA P W0 (Builtin.copy_ #[dT, sT] ty #[.slice (some ⟨g, o, none⟩) dl dc, .slice A sl sc]) m K := fun w hw => by
  obtain ⟨hu, hsz⟩ := slOf_run hsl
  rcases hsrc with hnil | ⟨a, rfl, hc⟩
  · subst hnil
    have hw' : wr cur o [] = cur := by unfold wr; simp
    rw [hw'] at hk
    have hmm : m.set g (.cells cur t) = m := by funext i; simp only [Mem.set]; split <;> simp_all
    rw [hmm] at hk
    refine ⟨_, w, m, ?_, hw, hk⟩
    have hf : ∀ (w : World), (Builtin.firstCells 1 0 (.slice A sl sc)).run P w = .ok #[] w := fun w => by cases A <;> simp [Builtin.firstCells, loadCells, loadCellsFrom]
    simp only [List.length_nil] at hn
    simp [Builtin.copy_, run_underlying hu, Builtin.lenOf, szOf_run hsz, ← hn, hf, storeCells, goInt]
  · have hs' : (P.info? e).map (·.size) = some 1 := hsz
    have hr := run_copy_row P w dT sT ty e g o dl dc a sl sc cur t cs hu hs' (hw.own _ _ hm).2 hn (fun j v hj => cellA_cell hw (hc j v hj)) hfit h1
    exact ⟨_, _, _, hr, hw.setRow (c' := wr cur o cs) hm, hk⟩
/-- bytes as a string -/
def strOf (l : List Int) : ByteArray := ⟨(l.map fun x => UInt8.ofNat x.toNat).toArray⟩
theorem strOf_fold (l : List Int) : ∀ s : ByteArray, l.foldl (fun r n => r.push (UInt8.ofNat n.toNat)) s = ⟨(s.data.toList ++ l.map fun x => UInt8.ofNat x.toNat).toArray⟩ := by
  induction l with
  | nil => intro s; simp
  | cons x l ih =>
    intro s
    simp only [List.foldl_cons, ih, List.map_cons]
    congr 1
    simp [ByteArray.push]
theorem strOf_toList (l : List Int) : (strOf l).toList = l.map fun x => UInt8.ofNat x.toNat := by unfold strOf; simp
theorem strOf_inj {a b : List Int} (ha : Byte a) (hb : Byte b) (h : (strOf a).toList = (strOf b).toList) : a = b := by
  rw [strOf_toList, strOf_toList] at h
  have key : ∀ l : List Int, Byte l → (l.map fun x => UInt8.ofNat x.toNat).map (fun u => (u.toNat : Int)) = l := fun l hl => by
    rw [List.map_map]
    conv => rhs; rw [← List.map_id l]
    refine List.map_congr_left fun x hx => ?_
    have := hl x hx
    simp only [Function.comp, id, UInt8.toNat_ofNat']
    omega
  rw [← key a ha, ← key b hb, h]
theorem rstr {s d e : TypeId} {m : Mem} {v : Value} {n : Nat} {l : List Int} {K : Value → Mem → Prop} (hs : slOf P s = some (e, 1)) (he : P.underlying e = some (.int .u8)) (hd : P.underlying d = some .string)
    (hr : RS W0 m v 1 n (u8 l)) (hk : K (.string (strOf l)) m) : PureA P W0 (convert s d v) m K := by
  refine .same (fun w hw => ?_) hk
  obtain ⟨hu, _⟩ := slOf_run hs
  obtain ⟨hl, A, c, rfl, h2⟩ := hr
  have hll : l.length = n := by rw [u8_length] at hl; omega
  have e0 : l.foldl (fun r n => r.push (UInt8.ofNat n.toNat)) ByteArray.empty = strOf l := by rw [strOf_fold]; rfl
  rw [u8, List.map_eq_nil_iff] at h2
  cases A with
  | none =>
    rcases h2 with h2 | ⟨a, h3, _⟩
    · subst h2
      rw [run_convert_bytes_string w s d e _ _ _ hu he hd]; simp [Conv.bytesToString]; rfl
    · cases h3
  | some a =>
    rw [run_convert_bytes_string w s d e _ _ _ hu he hd, run_bytesToString w a n c l, e0]
    rcases h2 with h2 | ⟨a', h3, h4⟩
    · subst h2; simp at hll; subst hll; simp [loadCells, loadCellsFrom]
    · cases h3
      have := run_loadCells_list (P := P) w a (u8 l) (fun j u hj => cellA_cell hw (h4 j u hj))
      rw [u8_length, hll] at this
      exact this
theorem elem_of {t e : TypeId} (hu : P.underlying t = some (.slice e)) : P.elem t = e := by simp [Program.elem, hu]
/-- a part of a slice -/
theorem rsl_lh {t e : TypeId} {size : Nat} {m : Mem} {A : Option Addr} {n c : Nat} {kl kh : IntKind} {l h : Nat} {K : Value → Mem → Prop} (hs : slOf P t = some (e, size)) (h1 : l ≤ h) (h2 : h ≤ c)
    (hk : K (.slice (if c = l then A else A.map (·.add (l * size))) (h - l) (c - l)) m) : PureA P W0 (Instr.sliceAt t (.slice A n c) (some (.int kl l)) (some (.int kh h)) none) m K := by
  obtain ⟨hu, hsz⟩ := slOf_run hs
  have he := elem_of hu
  refine .same (fun w _ => ?_) hk
  rw [run_sliceAt_slice w t _ _ _ _ (by rw [he]; exact hu), run_slice_lh w t A n c (by rw [he]; exact hu) kl kh l h (by omega) (by omega) (by omega), he, szOf_run hsz]
  simp [sliced]
theorem rsl_l {t e : TypeId} {size : Nat} {m : Mem} {A : Option Addr} {n c : Nat} {kl : IntKind} {l : Nat} {K : Value → Mem → Prop} (hs : slOf P t = some (e, size)) (h1 : l ≤ n)
    (hk : K (.slice (if c = l then A else A.map (·.add (l * size))) (n - l) (c - l)) m) : PureA P W0 (Instr.sliceAt t (.slice A n c) (some (.int kl l)) none none) m K := by
  obtain ⟨hu, hsz⟩ := slOf_run hs
  have he := elem_of hu
  refine .same (fun w _ => ?_) hk
  rw [run_sliceAt_slice w t _ _ _ _ (by rw [he]; exact hu), run_slice_l w t A n c (by rw [he]; exact hu) kl l (by omega) (by omega), he, szOf_run hsz]
  simp [sliced]
theorem rsl_h {t e : TypeId} {size : Nat} {m : Mem} {A : Option Addr} {n c : Nat} {kh : IntKind} {h : Nat} {K : Value → Mem → Prop} (hs : slOf P t = some (e, size)) (h2 : h ≤ c)
    (hk : K (.slice A h c) m) : PureA P W0 (Instr.sliceAt t (.slice A n c) none (some (.int kh h)) none) m K := by
  obtain ⟨hu, hsz⟩ := slOf_run hs
  have he := elem_of hu
  refine .same (fun w _ => ?_) hk
  rw [run_sliceAt_slice w t _ _ _ _ (by rw [he]; exact hu), run_slice_h w t A n c (by rw [he]; exact hu) kh h (by omega) (by omega), he, szOf_run hsz]
  have : (if c = 0 then A else A.map fun x => x.add (0 * size)) = A := by
    split
    · rfl
    · cases A <;> simp [add_zero']
  simp [sliced, this, Addr.add]
theorem RS.take {m : Mem} {A : Option Addr} {n c : Nat} {xs : List Value} (h : RS W0 m (.slice A n c) 1 n xs) {k c' : Nat} (hk : k ≤ n) : RS W0 m (.slice A k c') 1 k (xs.take k) := by
  obtain ⟨h1, A', c'', hv, h2⟩ := h
  cases hv
  refine ⟨by simp; omega, A, c', rfl, ?_⟩
  rcases h2 with h2 | ⟨a, ha, hc⟩
  · left; simp [h2]
  · right; exact ⟨a, ha, fun j u hj => by rw [List.getElem?_take] at hj; split at hj; exact hc j u hj; cases hj⟩
theorem add_add (a : Addr) (i j : Nat) (h : a.spot = none) : (a.add i).add j = a.add (i + j) := by
  cases a with | mk b o s => cases h; rw [add_lit', add_lit', add_lit', Nat.add_assoc]
/-- a slice literal -/
theorem rbuild {ty e size n : Nat} {z cells : Array Value} {parts : Array (Nat × Value)} {m : Mem} {K : Value → Mem → Prop} (hsl : slOf P ty = some (e, size)) (hz : zeroOf P e = some z) (h0 : 0 < n * size) (h24 : n * size ≤ 16777216)
    (hf : Instr.fill (fun i => some (i * size, size)) (madeCells z (n * size)) parts.toList = some cells) (h : ∀ b, Fresh W0 m b → K (.slice (some ⟨b, 0, none⟩) n n) (m.set b (.cells cells e))) :
    RunA P W0 (Instr.buildSlice ty n parts) m K := fun w hw => ⟨_, _, _, run_buildSlice hsl hz h0 h24 hf w, hw.alloc _, h _ hw.fresh⟩
theorem fill_one {z x : Value} (hx : x.cells = #[x]) : Instr.fill (fun i => some (i * 1, 1)) (madeCells #[z] (1 * 1)) [(0, x)] = some #[x] := by
  have : madeCells #[z] (1 * 1) = #[z] := by rw [made_one]; rfl
  rw [this]
  simp [Instr.fill, hx]
theorem RS.block {m : Mem} {b : Nat} {cells : Array Value} {e : TypeId} {size n : Nat} (hb : W0.heap.size ≤ b) (hm : m b = some (.cells cells e)) (hs : cells.size = n * size) : RS W0 m (.slice (some ⟨b, 0, none⟩) n n) size n cells.toList := by
  refine ⟨by simpa using hs, _, _, rfl, .inr ⟨_, rfl, fun j u hj => ?_⟩⟩
  rw [add_lit']
  exact cellA_own hb hm (by simpa using hj)
/-- cells of elements, one behind the other -/
theorem OwnS.blk {m : Mem} {e : TypeId} {size n g cap : Nat} {xs : List Value} (h : OwnS W0 m e size (.slice (some ⟨g, 0, none⟩) n cap) n xs) : ∃ o, m g = some o := by
  rcases h.2 with ⟨hv, _⟩ | ⟨g', cap', cur, hv, _, hm, _⟩
  · cases hv
  · cases hv; exact ⟨_, hm⟩
theorem OwnS.frame {m m' : Mem} {e : TypeId} {size n : Nat} {v : Value} {xs : List Value} (h : OwnS W0 m e size v n xs) (hq : ∀ k o, v.ownBlock = some k → m k = some o → m' k = some o) : OwnS W0 m' e size v n xs := by
  refine ⟨h.1, h.2.imp id ?_⟩
  rintro ⟨g, cap, cur, hv, hg, hm, rest⟩
  exact ⟨g, cap, cur, hv, hg, hq _ _ (by rw [hv]; rfl) hm, rest⟩
theorem byteK_some (b : UInt8) (K : Value → Mem → Prop) (m : Mem) : byteK (some b) K m = K (.int .u8 b.toNat) m := nd rfl
theorem Mem.set_set (m : Mem) (b : Nat) (o o' : Obj) : (m.set b o).set b o' = m.set b o' := by
  funext k; unfold Mem.set; split <;> rfl
theorem wr_all {c x : Array Value} (h : c.size = x.size) : wr c 0 x.toList = x := by
  unfold wr
  rw [List.take_zero, List.drop_eq_nil_of_le (by simp; omega)]
  simp
/-- All cells of a block of the call's own. -/
theorem cellA_blk {m : Mem} {b : Nat} {c : Array Value} {e : TypeId} {f : Nat × Nat} (hb : W0.heap.size ≤ b) (hm : m b = some (.cells c e f)) (j : Nat) : cellA W0 m ⟨b, j, none⟩ = c[j]? := by
  unfold cellA
  rw [if_neg (by show ¬ b < _; omega)]
  show (match m b with | some (.cells c _ _) => if (none : Option Nat).isSome then none else c[j]? | _ => none) = _
  rw [hm]; rfl
theorem mapM_from {α : Type} (f : Nat → Option α) : ∀ (l : List α) (s : Nat), (∀ j u, l[j]? = some u → f (s + j) = some u) → (List.range' s l.length).mapM f = some l
  | [], s, h => by simp
  | x :: l, s, h => by
    have h0 := h 0 x rfl
    have ih := mapM_from f l (s + 1) fun j u hj => by
      have := h (j + 1) u (by simpa using hj)
      rw [show s + 1 + j = s + (j + 1) by omega]; exact this
    rw [Nat.add_zero] at h0
    simp [List.range'_succ, h0, ih]
/-- The cells of a block of the call's own, or a part of them. -/
theorem cellsA_own {m : Mem} {b o n : Nat} {c : Array Value} {e : TypeId} {f : Nat × Nat} (hb : W0.heap.size ≤ b) (hm : m b = some (.cells c e f)) {x : Array Value} (hx : x.size = n) (hc : ∀ j, j < n → c[o + j]? = x[j]?) :
    cellsA W0 m ⟨b, o, none⟩ n = some x := by
  unfold cellsA
  have := mapM_from (fun j => cellA W0 m ((⟨b, o, none⟩ : Addr).add j)) x.toList 0 fun j u hj => by
    have hj2 : x[j]? = some u := by simpa using hj
    have hlt : j < n := by have := (Array.getElem?_eq_some_iff.1 hj2).1; omega
    rw [Nat.zero_add, add_lit']
    exact cellA_own hb hm ((hc j hlt).trans hj2)
  rw [List.range_eq_range', ← hx, ← Array.length_toList, this]
  simp
theorem cellsA_block {m : Mem} {b n : Nat} {c : Array Value} {e : TypeId} {f : Nat × Nat} (hb : W0.heap.size ≤ b) (hm : m b = some (.cells c e f)) (hn : c.size = n) : cellsA W0 m ⟨b, 0, none⟩ n = some c :=
  cellsA_own hb hm hn fun j _ => by rw [Nat.zero_add]
theorem cellsA_ext {m m' : Mem} {a : Addr} {n : Nat} {x : Array Value} (h : cellsA W0 m a n = some x) (e : Ext m m') : cellsA W0 m' a n = some x := by
  unfold cellsA at h ⊢
  rw [Option.map_eq_some_iff] at h ⊢
  obtain ⟨l, hl, hx⟩ := h
  refine ⟨l, ?_, hx⟩
  have : ∀ (r : List Nat) (l : List Value), (r.mapM fun j => cellA W0 m (a.add j)) = some l → (r.mapM fun j => cellA W0 m' (a.add j)) = some l := by
    intro r
    induction r with
    | nil => intro l h; simpa using h
    | cons j r ih =>
      intro l h
      simp only [List.mapM_cons, Option.bind_eq_bind, Option.bind_eq_some_iff, Option.pure_def, Option.some.injEq] at h ⊢
      obtain ⟨v, hv, l2, hl2, rfl⟩ := h
      exact ⟨v, cellA_ext e hv, l2, ih _ hl2, rfl⟩
  exact this _ _ hl
theorem flat_get {α : Type} (f : α → List Value) (k : Nat) (hf : ∀ x, (f x).length = k) : ∀ (l : List α) (i j : Nat) (x : α), l[i]? = some x → j < k → (l.flatMap f)[i * k + j]? = (f x)[j]?
  | [], i, j, x, h, _ => by simp at h
  | y :: l, 0, j, x, h, hj => by
    simp only [List.getElem?_cons_zero, Option.some.injEq] at h
    subst h
    rw [List.flatMap_cons, Nat.zero_mul, Nat.zero_add, List.getElem?_append_left (by rw [hf]; exact hj)]
  | y :: l, i + 1, j, x, h, hj => by
    rw [List.flatMap_cons, List.getElem?_append_right (by rw [hf]; have : (i + 1) * k = i * k + k := Nat.succ_mul i k; omega), hf]
    rw [show (i + 1) * k + j - k = i * k + j by have : (i + 1) * k = i * k + k := Nat.succ_mul i k; omega]
    exact flat_get f k hf l i j x (by simpa using h) hj
theorem flat_length {α : Type} (f : α → List Value) (k : Nat) (hf : ∀ x, (f x).length = k) (l : List α) : (l.flatMap f).length = l.length * k := by
  induction l with
  | nil => simp
  | cons x l ih => rw [List.flatMap_cons, List.length_append, ih, hf, List.length_cons, Nat.succ_mul]; omega
theorem cellA_spot {m : Mem} {a : Addr} {v : Value} (h : cellA W0 m a = some v) : a.spot = none := by
  unfold cellA World.cell? at h
  split at h
  · split at h
    · split at h
      · cases h
      · rename_i hs; cases hx : a.spot with
        | none => rfl
        | some _ => rw [hx] at hs; simp at hs
    · cases h
  · split at h
    · split at h
      · cases h
      · rename_i hs; cases hx : a.spot with
        | none => rfl
        | some _ => rw [hx] at hs; simp at hs
    · cases h
/-- An element's cell, by its index and its field. -/
theorem RS.field {α : Type} {f : α → List Value} {k : Nat} (hf : ∀ x, (f x).length = k) {m : Mem} {A : Option Addr} {n c : Nat} {l : List α} (h : RS W0 m (.slice A n c) k n (l.flatMap f)) {i : Nat} {x : α} (hx : l[i]? = some x) (hk : 0 < k) :
    ∃ a, A = some a ∧ ∀ j u, (f x)[j]? = some u → cellA W0 m ((a.add (i * k)).add j) = some u := by
  obtain ⟨h1, A', c', hv, h2⟩ := h
  cases hv
  have hi : i < l.length := (List.getElem?_eq_some_iff.1 hx).1
  rcases h2 with h2 | ⟨a, ha, hc⟩
  · have := flat_length f k hf l
    rw [h2] at this
    have := Nat.mul_pos (show 0 < l.length by omega) hk
    simp at *
    omega
  · refine ⟨a, ha, fun j u hu => ?_⟩
    have hj : j < k := by rw [← hf x]; exact (List.getElem?_eq_some_iff.1 hu).1
    have h3 := hc (i * k + j) u (by rw [flat_get f k hf l i j x hx hj]; exact hu)
    have h0 : (l.flatMap f)[0]? ≠ none := by
      intro e
      have h4 := List.getElem?_eq_none_iff.1 e
      rw [flat_length f k hf] at h4
      have := Nat.mul_pos (show 0 < l.length by omega) hk
      omega
    obtain ⟨u0, hu0⟩ := Option.ne_none_iff_exists'.1 h0
    have hs := cellA_spot (hc 0 u0 hu0)
    rw [add_zero'] at hs
    rw [add_add _ _ _ hs]; exact h3
end
end Go.Proofs.Ytcddhbhdpleppaa.R
