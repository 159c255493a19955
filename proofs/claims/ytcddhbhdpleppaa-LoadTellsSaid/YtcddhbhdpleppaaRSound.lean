/- Each operation comes to what the logic says of it. No conditions. -/
import Derived.Test.YtcddhbhdpleppaaRCore
namespace Go.Proofs.Ytcddhbhdpleppaa.R
open Go Go.RowKit
set_option linter.unusedVariables false
set_option linter.unusedSimpArgs false
section
variable {P : Program} {W0 : World}

theorem szOf_run {t : TypeId} {n : Nat} (h : szOf P t = some n) (w : World) : (sizeOf t).run P w = .ok n w := by
  unfold szOf at h
  cases hi : P.info? t with
  | none => simp [hi] at h
  | some i => simp [hi] at h; subst h; simp [sizeOf, typeInfo, hi]
theorem zeroOf_run {t : TypeId} {z : Array Value} (h : zeroOf P t = some z) : ∃ v : Value, v.cells = z ∧ ∀ w, (zeroValue t).run P w = .ok v w := by
  unfold zeroOf at h
  cases hi : P.info? t with
  | none => simp [hi] at h
  | some i =>
    cases hz : i.zero with
    | none => simp [hi, hz] at h
    | some v => simp [hi, hz] at h; exact ⟨v, h, fun w => by simp [zeroValue, typeInfo, hi, hz]⟩
theorem newRow_run (e : TypeId) (c : Array Value) (w : World) : (newRow e c).run P w = .ok ⟨w.heap.size, 0, none⟩ (w.alloc (.cells c e)) := by
  simp [newRow, newObj]; rfl
theorem newK_run {c : Array Value} {e : TypeId} {K : Value → Mem → Prop} {m : Mem} (h : newK W0 c e K m) {s : Sem Value}
    (hs : ∀ w, Sub W0 m w → s.run P w = .ok (.pointer (some ⟨w.heap.size, 0, none⟩)) (w.alloc (.cells c e))) : RunA P W0 s m K :=
  fun w hw => ⟨_, _, _, hs w hw, hw.alloc _, h _ hw.fresh⟩
theorem isAgg_run {t : TypeId} {r : Option Nat} (h : rowOf P t = some r) (w : World) : (isAgg t).run P w = .ok r.isSome w := by
  unfold rowOf at h
  cases hu : P.underlying t with
  | none => simp [hu] at h
  | some d =>
    cases d <;> simp [hu] at h <;> first
      | (subst h; simp [isAgg, run_underlying hu]; done)
      | (obtain ⟨n, hn, rfl⟩ := h; simp [isAgg, run_underlying hu])
theorem rowOf_size {t : TypeId} {n : Nat} (h : rowOf P t = some (some n)) : szOf P t = some n := by
  unfold rowOf at h
  cases hu : P.underlying t with
  | none => simp [hu] at h
  | some d => cases d <;> simp [hu] at h <;> exact h
theorem mapM_some {α : Type} (f : Nat → Option α) : ∀ (l : List Nat) (r : List α), l.mapM f = some r → r.length = l.length ∧ ∀ (j x : Nat), l[j]? = some x → f x = r[j]?
  | [], r, h => by simp at h; subst h; simp
  | a :: l, r, h => by
    simp only [List.mapM_cons, Option.bind_eq_bind, Option.pure_def] at h
    cases ha : f a with
    | none => simp [ha] at h
    | some b =>
      cases hr : l.mapM f with
      | none => simp [ha, hr] at h
      | some r' =>
        simp [ha, hr] at h
        subst h
        obtain ⟨h1, h2⟩ := mapM_some f l r' hr
        refine ⟨by simp [h1], fun j x hj => ?_⟩
        cases j with
        | zero => simp at hj; subst hj; simpa using ha
        | succ j => simpa using h2 j x (by simpa using hj)
theorem cellsA_cells {m : Mem} {w : World} (h : Sub W0 m w) {a : Addr} {n : Nat} {cs : Array Value} (hc : cellsA W0 m a n = some cs) :
    cs.size = n ∧ ∀ j, j < n → w.cell? (a.add j) = cs[j]? := by
  unfold cellsA at hc
  cases hr : (List.range n).mapM (fun j => cellA W0 m (a.add j)) with
  | none => simp [hr] at hc
  | some l =>
    simp [hr] at hc
    subst hc
    obtain ⟨h1, h2⟩ := mapM_some _ _ _ hr
    refine ⟨by simpa using h1, fun j hj => ?_⟩
    have h3 := h2 j j (by simp [hj])
    cases hl : l[j]? with
    | none => have := List.getElem?_eq_none_iff.1 hl; simp at h1; omega
    | some v => rw [hl] at h3; rw [cellA_cell h h3]; simp [hl]
theorem loadCells_run {m : Mem} {w : World} (h : Sub W0 m w) {a : Addr} {n : Nat} {cs : Array Value} (hc : cellsA W0 m a n = some cs) : (loadCells a n).run P w = .ok cs w := by
  obtain ⟨h1, h2⟩ := cellsA_cells h hc
  have := run_loadCells_list (P := P) w a cs.toList (fun j v hv => by
    have hj : j < cs.size := by
      rcases Nat.lt_or_ge j cs.size with h' | h'
      · exact h'
      · simp [Array.getElem?_eq_none h'] at hv
    rw [h2 j (by omega)]; simpa using hv)
  simpa [h1] using this
theorem load_run {m : Mem} {w : World} (h : Sub W0 m w) {a : Addr} {v : Value} (hc : cellA W0 m a = some v) : (load a).run P w = .ok v w := by
  simp [run_load, cellA_cell h hc]
theorem loadT_run {t : TypeId} {a : Addr} {K : Value → Mem → Prop} {m : Mem} (h : loadT W0 (rowOf P t) a K m) : PureA P W0 (loadVar t a) m K := by
  unfold loadT at h
  split at h
  · rename_i hr
    unfold optK at h
    split at h
    · rename_i v hv
      exact .same (fun w hw => by
        have hl := load_run (P := P) hw hv
        simp only [loadVar, Sem.run_bind, isAgg_run hr, Result.andThen_ok, Option.isSome_none, Bool.false_eq_true, if_false]
        exact hl) h
    · exact h.elim
  · rename_i n hr
    unfold aggK at h
    split at h
    · rename_i cs hc
      exact .same (fun w hw => by simp [loadVar, isAgg_run hr, szOf_run (rowOf_size hr), loadCells_run hw hc]) h
    · exact h.elim
  · exact h.elim
theorem storable_cells {v : Value} (h : storable v = true) : ∀ x ∈ v.cells.toList, x.oneCell' = true := by
  cases v <;> simp [storable, Value.cells, Value.oneCell'] at h ⊢
  rename_i cs
  intro x hx
  obtain ⟨i, hi, rfl⟩ := Array.mem_iff_getElem.1 hx
  exact h i hi
theorem setRow_other (w : World) (g k : Nat) (cs : Array Value) (h : k ≠ g) : (w.setRow g cs).heap[k]? = w.heap[k]? := by
  simp only [World.setRow, Array.getElem?_modify]
  rw [if_neg (by omega)]
theorem Sub.setRow {m : Mem} {w : World} (h : Sub W0 m w) {b : Nat} {c c' : Array Value} {e : TypeId} (hb : m b = some (.cells c e)) : Sub W0 (m.set b (.cells c' e)) (w.setRow b c') := by
  have h2 := (h.own _ _ hb).2
  refine h.put hb ⟨rfl, rfl, rfl, by simp [World.setRow], fun k hk => setRow_other _ _ _ _ (by omega)⟩ (by simp [World.setRow]) (fun k hk => setRow_other _ _ _ _ hk) ?_
  exact setRow_heap w b c c' e (0, 0) h2
theorem store_run {t : TypeId} {p v : Value} {K : Value → Mem → Prop} {m : Mem} (h : storeK P W0 t p v K m) : RunA P W0 (Instr.storeAt t p v) m fun _ m' => K undef m' := by
  unfold storeK at h
  split at h
  · rename_i b o
    obtain ⟨h1, h2, h3⟩ := h
    unfold storeB at h3
    split at h3
    · rename_i c e hm
      obtain ⟨h4, h5⟩ := h3
      intro w hw
      have hr := run_storeCells_at P b o e v.cells.toList 0 c w (hw.own _ _ hm).2 (by simpa using h4) (storable_cells h1)
      refine ⟨(), _, _, ?_, hw.setRow (c' := wr c o v.cells.toList) hm, h5⟩
      simp only [Nat.add_zero] at hr
      simp only [Instr.storeAt, Instr.sureAddr, pure_bind, storeVar, Sem.run_bind, szOf_run h2, Result.andThen_ok, ne_eq, not_true, if_false, Sem.run_ite]
      rw [hr]; rfl
    · exact h3.elim
  · exact h.elim
theorem intK_run {op : BinOp} {k k' : IntKind} {a b : Int} {K : Value → Mem → Prop} {m : Mem} (hk : k = k' ∨ op = .shl ∨ op = .shr) (h : intK op k a b K m) (t : TypeId) (x y : Operand) :
    PureA P W0 (do eqGuard op t x y (.int k a) (.int k' b); binOp op t (.int k a) (.int k' b)) m K := by
  have e : eqGuard op t x y (.int k a) (.int k' b) = pure () := by cases op <;> rfl
  rw [e]
  cases op
  case shl => obtain ⟨h0, h⟩ := h; exact .same (fun w _ => by
    have : ¬ b < 0 := by omega
    simp only [pure_bind, binOp, Op.shift, if_neg this]; rfl) h
  case shr => obtain ⟨h0, h⟩ := h; exact .same (fun w _ => by
    have : ¬ b < 0 := by omega
    simp only [pure_bind, binOp, Op.shift, if_neg this]; rfl) h
  all_goals (simp only [reduceCtorEq, or_false] at hk; subst hk)
  case quo => obtain ⟨h0, h⟩ := h; exact .same (fun w _ => by simp [binOp, Op.intDiv, h0, pure_bind]) h
  case rem => obtain ⟨h0, h⟩ := h; exact .same (fun w _ => by simp [binOp, Op.intDiv, h0, pure_bind]) h
  all_goals exact .same (fun w _ => by simp [binOp, Op.intArith, Op.intCmp, Op.intBits, bits, pure_bind]) h
theorem strK_run {op : BinOp} {a b : ByteArray} {K : Value → Mem → Prop} {m : Mem} (h : strK op a b K m) (t : TypeId) (x y : Operand) :
    PureA P W0 (do eqGuard op t x y (.string a) (.string b); binOp op t (.string a) (.string b)) m K := by
  have e : eqGuard op t x y (.string a) (.string b) = pure () := by cases op <;> rfl
  rw [e]
  cases op <;> simp only [strK] at h <;> first
    | exact h.elim
    | exact .same (fun w _ => by simp [binOp, Op.stringOp, pure_bind]) h
    | (obtain ⟨h0, h⟩ := h; exact .same (fun w _ => by
        have : ¬ (9223372036854775807 < (a.size : Int) + b.size) := by omega
        simp [binOp, Op.stringOp, pure_bind, IntKind.max, IntKind.signed, IntKind.bits, this]) h)
theorem eqK_run {op : BinOp} {b : Bool} {t : TypeId} {x y : Operand} {u v : Value} {K : Value → Mem → Prop} {m : Mem} (hg : eqGuard op t x y u v = pure ())
    (hb : ∀ o : BinOp, o = .eql ∨ o = .neq → binOp o t u v = if o = .eql then (do pure (.bool (← Op.equal t u v))) else (do pure (.bool (!(← Op.equal t u v)))))
    (he : ∀ w, (Op.equal t u v).run P w = .ok b w) (h : eqK op b K m) : PureA P W0 (do eqGuard op t x y u v; binOp op t u v) m K := by
  rw [hg]
  unfold eqK at h
  split at h
  · refine .same (fun w _ => ?_) h
    rw [pure_bind, hb .eql (.inl rfl), if_pos rfl]; simp [he]
  · refine .same (fun w _ => ?_) h
    rw [pure_bind, hb .neq (.inr rfl), if_neg (by simp)]; simp [he]
  · exact h.elim
theorem equal_step (t : TypeId) (u v : Value) : Op.equal t u v = Op.equalIn (9999 + 1) t u v := rfl
theorem optK_run {o : Option Value} {K : Value → Mem → Prop} {m : Mem} (h : optK o K m) : ∃ v, o = some v ∧ K v m := by
  unfold optK at h; split at h
  · exact ⟨_, rfl, h⟩
  · exact h.elim
theorem partK_run {r : Option Nat} {t : TypeId} {o : Nat} {cs : Array Value} {K : Value → Mem → Prop} {m : Mem} (hr : rowOf P t = some r) (h : partK (some (o, r)) cs K m) : PureA P W0 (part t cs o) m K := by
  unfold partK at h
  cases r with
  | none =>
    simp only at h
    obtain ⟨v, hv, hk⟩ := optK_run h
    exact .same (fun w _ => by simp [part, isAgg_run hr, hv]) hk
  | some n =>
    simp only at h
    exact .same (fun w _ => by simp [part, isAgg_run hr, szOf_run (rowOf_size hr)]) h
end
end Go.Proofs.Ytcddhbhdpleppaa.R
