/- Maps of the call's own, over the logic of partial memories. No conditions. -/
import Derived.Test.YtcddhbhdpleppaaRLib2
import Derived.Maps.Keyed
import Derived.MapKept
import Derived.Carry
set_option linter.unusedVariables false
set_option linter.unusedSimpArgs false
namespace Go.Proofs.Ytcddhbhdpleppaa.R
open Go Go.RowKit
section
variable {P : Program} {W0 : World}
def zeroV (P : Program) (t : TypeId) : Option Value := (P.info? t).bind (·.zero)
theorem zeroV_run {t : TypeId} {z : Value} (h : zeroV P t = some z) (w : World) : (zeroValue t).run P w = .ok z w := by
  unfold zeroV at h
  cases hi : P.info? t with
  | none => simp [hi] at h
  | some i => simp [hi] at h; simp [zeroValue, typeInfo, hi, h]
/-- A key type: what its keys read as. -/
structure KeyT (P : Program) (k : TypeId) {α : Type} (enc : α → Value) (ok : α → Prop) : Prop where
  law : Maps.Keyed P k
  key : ∀ a, ok a → ∃ l, keyOf P k (enc a) = some l
  inj : ∀ a b, enc a = enc b → a = b
structure MapS (W0 : World) (m : Mem) (r : Nat) {α : Type} (enc : α → Value) (ok : α → Prop) (l : List (α × Value)) : Prop where
  low : W0.heap.size ≤ r
  blk : ∃ es clock, m r = some (.map es clock) ∧ es.toList.map (fun e => (e.key, e.val)) = l.map (fun p => (enc p.1, p.2))
  oks : ∀ p ∈ l, ok p.1
  nod : (l.map (·.1)).Nodup
section
variable {α : Type} [DecidableEq α]
def mget : List (α × Value) → α → Option Value
  | [], _ => none
  | p :: l, a => if p.1 = a then some p.2 else mget l a
def mput : List (α × Value) → α → Value → List (α × Value)
  | [], a, v => [(a, v)]
  | p :: l, a, v => if p.1 = a then (a, v) :: l else p :: mput l a v
def mdel (l : List (α × Value)) (a : α) : List (α × Value) := l.filter (fun p => decide (p.1 ≠ a))
theorem mget_none {a : α} : ∀ {l : List (α × Value)}, (∀ p ∈ l, p.1 ≠ a) → mget l a = none
  | [], _ => rfl
  | p :: l, h => by
    unfold mget
    rw [if_neg (h p (List.mem_cons_self ..))]
    exact mget_none fun q hq => h q (List.mem_cons_of_mem _ hq)
theorem mget_at : ∀ {l : List (α × Value)} {j : Nat} {p : α × Value}, (l.map (·.1)).Nodup → l[j]? = some p → mget l p.1 = some p.2
  | [], j, p, _, h => by simp at h
  | q :: l, 0, p, _, h => by
    simp at h; subst h
    unfold mget; rw [if_pos rfl]
  | q :: l, j + 1, p, hn, h => by
    simp only [List.map_cons, List.nodup_cons] at hn
    simp only [List.getElem?_cons_succ] at h
    unfold mget
    rw [if_neg (fun e => hn.1 (by rw [e]; exact List.mem_map_of_mem (List.mem_of_getElem? h)))]
    exact mget_at hn.2 h
theorem mput_none {a : α} {v : Value} : ∀ {l : List (α × Value)}, (∀ p ∈ l, p.1 ≠ a) → mput l a v = l ++ [(a, v)]
  | [], _ => rfl
  | p :: l, h => by
    unfold mput
    rw [if_neg (h p (List.mem_cons_self ..)), mput_none fun q hq => h q (List.mem_cons_of_mem _ hq)]; rfl
theorem mput_at {v : Value} : ∀ {l : List (α × Value)} {j : Nat} {p : α × Value}, (l.map (·.1)).Nodup → l[j]? = some p → mput l p.1 v = l.set j (p.1, v)
  | [], j, p, _, h => by simp at h
  | q :: l, 0, p, _, h => by
    simp at h; subst h
    unfold mput; rw [if_pos rfl]; rfl
  | q :: l, j + 1, p, hn, h => by
    simp only [List.map_cons, List.nodup_cons] at hn
    simp only [List.getElem?_cons_succ] at h
    unfold mput
    rw [if_neg (fun e => hn.1 (by rw [e]; exact List.mem_map_of_mem (List.mem_of_getElem? h))), mput_at hn.2 h]; rfl
theorem mem_mput {a : α} {v : Value} {x : α} : ∀ {l : List (α × Value)}, x ∈ (mput l a v).map (·.1) ↔ x = a ∨ x ∈ l.map (·.1)
  | [] => by simp [mput]
  | p :: l => by
    unfold mput
    by_cases h : p.1 = a
    · rw [if_pos h]; simp [h]
    · rw [if_neg h, List.map_cons, List.mem_cons, mem_mput, List.map_cons, List.mem_cons]
      constructor
      · rintro (h | h | h)
        · exact .inr (.inl h)
        · exact .inl h
        · exact .inr (.inr h)
      · rintro (h | h | h)
        · exact .inr (.inl h)
        · exact .inl h
        · exact .inr (.inr h)
theorem nod_mput {a : α} {v : Value} : ∀ {l : List (α × Value)}, (l.map (·.1)).Nodup → ((mput l a v).map (·.1)).Nodup
  | [], _ => by simp [mput]
  | p :: l, h => by
    have h' := h
    simp only [List.map_cons, List.nodup_cons] at h'
    unfold mput
    by_cases e : p.1 = a
    · rw [if_pos e]
      simp only [List.map_cons, List.nodup_cons]
      exact ⟨e ▸ h'.1, h'.2⟩
    · rw [if_neg e]
      simp only [List.map_cons, List.nodup_cons]
      refine ⟨fun hm => ?_, nod_mput h'.2⟩
      rcases mem_mput.1 hm with hm | hm
      · exact e hm
      · exact h'.1 hm
theorem mget_mput {a b : α} {v : Value} : ∀ {l : List (α × Value)}, mget (mput l a v) b = if a = b then some v else mget l b
  | [] => by simp [mget, mput]
  | p :: l => by
    unfold mput
    by_cases e : p.1 = a
    · rw [if_pos e]
      by_cases h : a = b
      · simp [mget, h]
      · simp only [mget, if_neg h]; rw [if_neg (fun x : p.1 = b => h (e.symm.trans x))]
    · rw [if_neg e]
      unfold mget
      by_cases h : p.1 = b
      · rw [if_pos h, if_pos h, if_neg (fun x : a = b => e (h.trans x.symm))]
      · rw [if_neg h, if_neg h, mget_mput]
theorem mget_some {a : α} : ∀ {l : List (α × Value)}, (mget l a).isSome = true ↔ a ∈ l.map (·.1)
  | [] => by simp [mget]
  | p :: l => by
    unfold mget
    by_cases h : p.1 = a
    · rw [if_pos h]; simp [h]
    · rw [if_neg h, mget_some, List.map_cons, List.mem_cons]
      exact ⟨.inr, fun x => x.resolve_left (fun e => h e.symm)⟩
theorem mput_length {a : α} {v : Value} : ∀ {l : List (α × Value)}, (mput l a v).length = if a ∈ l.map (·.1) then l.length else l.length + 1
  | [] => by simp [mput]
  | p :: l => by
    unfold mput
    by_cases h : p.1 = a
    · rw [if_pos h]; simp [h]
    · rw [if_neg h, List.length_cons, mput_length, List.map_cons]
      have e : (a ∈ p.1 :: l.map (·.1)) ↔ a ∈ l.map (·.1) := by
        rw [List.mem_cons]; exact ⟨fun x => x.resolve_left (fun e => h e.symm), .inr⟩
      by_cases g : a ∈ l.map (·.1)
      · rw [if_pos g, if_pos (e.2 g)]; rfl
      · rw [if_neg g, if_neg (fun x => g (e.1 x))]; rfl
end
section
variable {α : Type} {enc : α → Value} {ok : α → Prop}
theorem MapS.ext {m m' : Mem} {r : Nat} {l : List (α × Value)} (h : MapS W0 m r enc ok l) (e : Ext m m') : MapS W0 m' r enc ok l := by
  obtain ⟨es, clock, hm, he⟩ := h.blk
  exact ⟨h.low, ⟨es, clock, e _ _ hm, he⟩, h.oks, h.nod⟩
theorem MapS.keep {m m' : Mem} {r : Nat} {l : List (α × Value)} (h : MapS W0 m r enc ok l) {q : Option Nat} (e : Keep m m' q) (hq : q ≠ some r) : MapS W0 m' r enc ok l := by
  obtain ⟨es, clock, hm, he⟩ := h.blk
  exact ⟨h.low, ⟨es, clock, e _ _ hm hq, he⟩, h.oks, h.nod⟩
theorem MapS.some_ {m : Mem} {r : Nat} {l : List (α × Value)} (h : MapS W0 m r enc ok l) : m r ≠ none := by
  obtain ⟨es, clock, hm, he⟩ := h.blk
  rw [hm]; simp
/-- what is found of a key -/
theorem map_find {k : TypeId} (T : KeyT P k enc ok) {es : Array MapEntry} {l : List (α × Value)} (he : es.toList.map (fun e => (e.key, e.val)) = l.map (fun p => (enc p.1, p.2))) (hok : ∀ p ∈ l, ok p.1) {a : α} (ha : ok a) (w : World) :
    ((Instr.findKey k (enc a) es.toList).run P w = .ok none w ∧ ∀ p ∈ l, p.1 ≠ a) ∨ ∃ j p e, (Instr.findKey k (enc a) es.toList).run P w = .ok (some (j, p.2)) w ∧ l[j]? = some p ∧ p.1 = a ∧ es.toList[j]? = some e ∧ e.key = enc a ∧ e.val = p.2 := by
  have ho : ∀ e ∈ es.toList, ∃ p ∈ l, e.key = enc p.1 ∧ e.val = p.2 := fun e hx => by
    have : (e.key, e.val) ∈ l.map (fun p => (enc p.1, p.2)) := he ▸ List.mem_map_of_mem (f := fun e : MapEntry => (e.key, e.val)) hx
    obtain ⟨p, hp, h⟩ := List.mem_map.1 this
    simp only [Prod.mk.injEq] at h
    exact ⟨p, hp, h.1.symm, h.2.symm⟩
  obtain ⟨la, hla⟩ := T.key a ha
  rcases T.law.find w hla es.toList (fun e hx => by obtain ⟨p, hp, h1, _⟩ := ho e hx; rw [h1]; exact T.key _ (hok p hp)) with ⟨h1, h2⟩ | ⟨j, e, h1, h2, h3⟩
  · refine .inl ⟨h1, fun p hp hpa => ?_⟩
    have : (enc p.1, p.2) ∈ es.toList.map (fun e => (e.key, e.val)) := he ▸ List.mem_map_of_mem (f := fun p : α × Value => (enc p.1, p.2)) hp
    obtain ⟨e, hx, h⟩ := List.mem_map.1 this
    simp only [Prod.mk.injEq] at h
    exact h2 e hx (by rw [h.1, hpa])
  · have hj : (l.map (fun p => (enc p.1, p.2)))[j]? = some (e.key, e.val) := by rw [← he, List.getElem?_map, h2]; rfl
    rw [List.getElem?_map] at hj
    cases hp : l[j]? with
    | none => rw [hp] at hj; simp at hj
    | some p =>
      rw [hp] at hj
      simp only [Option.map_some, Option.some.injEq, Prod.mk.injEq] at hj
      exact .inr ⟨j, p, e, by rw [hj.2]; exact h1, hp, T.inj _ _ (by rw [hj.1]; exact h3), h2, h3, hj.2.symm⟩
theorem rmapNew {ty : TypeId} {m : Mem} {K : Value → Mem → Prop} (h : ∀ r m', MapS W0 m' r enc ok [] → m r = none → Ext m m' → K (.map (some r)) m') : RunA P W0 (Instr.makeMap ty none) m K :=
  fun w hw => ⟨_, _, _, run_makeMap ty w, hw.alloc _, h _ _ ⟨hw.fresh.le, ⟨#[], 0, Mem.set_same _ _ _, rfl⟩, fun p hp => by simp at hp, by simp⟩ hw.fresh.no (Ext.fresh hw.fresh _)⟩
theorem rmapGet [DecidableEq α] {k e ty : TypeId} {z : Value} {c : Bool} (T : KeyT P k enc ok) (ht : P.underlying ty = some (.map k e)) (hz : zeroV P e = some z) {m : Mem} {r : Nat} {l : List (α × Value)} (M : MapS W0 m r enc ok l) {a : α} (ha : ok a) {K : Value → Mem → Prop}
    (hk : K (if c then .tuple #[(mget l a).getD z, .bool (mget l a).isSome] else (mget l a).getD z) m) : PureA P W0 (Instr.lookup ty (.map (some r)) (enc a) c) m K := by
  obtain ⟨es, clock, hm, he⟩ := M.blk
  obtain ⟨la, hla⟩ := T.key a ha
  refine .same (fun w hw => ?_) hk
  have hb := (hw.own _ _ hm).2
  rcases map_find T he M.oks ha w with ⟨h1, h2⟩ | ⟨j, p, e0, h1, h2, h3, _, _, _⟩
  · rw [mget_none h2]
    simp [Instr.lookup, run_underlying ht, MapKept.run_getObj_map hb, T.law.check w _ hla, h1, zeroV_run hz, Result.andThen]
  · rw [← h3, mget_at M.nod h2]
    rw [← h3] at h1 hla
    simp [Instr.lookup, run_underlying ht, MapKept.run_getObj_map hb, T.law.check w _ hla, h1, Result.andThen]
theorem Sub.putMap {m : Mem} {w : World} (hw : Sub W0 m w) {r : Nat} {o o' : Obj} (hm : m r = some o) : Sub W0 (m.set r o') { w with heap := w.heap.setIfInBounds r o' } := by
  have hlt := (Array.getElem?_eq_some_iff.1 (hw.own _ _ hm).2).1
  refine hw.put hm ⟨rfl, rfl, rfl, by simp, fun k hk => ?_⟩ (by simp) (fun k hk => ?_) ?_
  · show (w.heap.setIfInBounds r o')[k]? = _
    rw [Array.getElem?_setIfInBounds, if_neg (by omega)]
  · show (w.heap.setIfInBounds r o')[k]? = _
    rw [Array.getElem?_setIfInBounds, if_neg (fun h => hk h.symm)]
  · show (w.heap.setIfInBounds r o')[r]? = _
    rw [Array.getElem?_setIfInBounds]; simp [hlt]
theorem rmapPut [DecidableEq α] {k e ty : TypeId} (T : KeyT P k enc ok) (ht : P.underlying ty = some (.map k e)) {m : Mem} {r : Nat} {l : List (α × Value)} (M : MapS W0 m r enc ok l) {a : α} (ha : ok a) {v : Value} {K : Unit → Mem → Prop}
    (hk : ∀ m', MapS W0 m' r enc ok (mput l a v) → Keep m m' (some r) → K () m') : RunA P W0 (Instr.mapUpdate ty (.map (some r)) (enc a) v) m K := by
  obtain ⟨es, clock, hm, he⟩ := M.blk
  obtain ⟨la, hla⟩ := T.key a ha
  have hoks : ∀ p ∈ mput l a v, ok p.1 := fun p hp => by
    rcases mem_mput.1 (List.mem_map_of_mem (f := (·.1)) hp) with h | h
    · rw [h]; exact ha
    · obtain ⟨q, hq, e⟩ := List.mem_map.1 h
      rw [← e]; exact M.oks q hq
  intro w hw
  have hb := (hw.own _ _ hm).2
  rcases map_find T he M.oks ha w with ⟨h1, h2⟩ | ⟨j, p, e0, h1, h2, h3, h4, h5, h6⟩
  · refine ⟨_, _, _, ?_, hw.putMap hm, hk (m.set r (.map (es.push { key := enc a, val := v, born := clock }) (clock + 1))) ⟨M.low, ⟨_, _, Mem.set_same _ _ _, ?_⟩, hoks, nod_mput M.nod⟩ (Keep.set m r _)⟩
    · simp [Instr.mapUpdate, run_underlying ht, MapKept.run_getObj_map hb, T.law.check w false hla, h1, MapKept.run_setObj_map _ hb, Result.andThen]
    · rw [mput_none h2, Array.toList_push, List.map_append, he, List.map_append]; rfl
  · subst h3
    have hj : es[j]? = some e0 := by simpa using h4
    refine ⟨_, _, _, ?_, hw.putMap hm, hk (m.set r (.map (es.modify j (fun e' => { e' with key := enc p.1, val := v })) clock)) ⟨M.low, ⟨_, _, Mem.set_same _ _ _, ?_⟩, hoks, nod_mput M.nod⟩ (Keep.set m r _)⟩
    · simp [Instr.mapUpdate, run_underlying ht, MapKept.run_getObj_map hb, T.law.check w false hla, h1, hj, h5, T.law.stays w hla, MapKept.run_setObj_map _ hb, Result.andThen]
    · rw [mput_at M.nod h2, Array.toList_modify, ChangeMaps.modify_eq_set _ _ _ _ h4, List.map_set, he, List.map_set]
theorem rmapLen {k e t ty : TypeId} (ht : P.underlying t = some (.map k e)) {m : Mem} {r : Nat} {l : List (α × Value)} (M : MapS W0 m r enc ok l) {K : Value → Mem → Prop} (hk : K (.int .i64 l.length) m) : RunA P W0 (Builtin.len_ #[t] ty #[.map (some r)]) m K := by
  obtain ⟨es, clock, hm, he⟩ := M.blk
  refine .same (fun w hw => ?_) hk
  have hb := (hw.own _ _ hm).2
  have hl : es.size = l.length := by have := congrArg List.length he; simpa using this
  simp [Builtin.len_, run_underlying ht, MapKept.run_getObj_map hb, goInt, hl]
theorem keyInt {k : TypeId} (h : P.underlying k = some (.int .i64)) : KeyT P k (fun n : Int => .int .i64 n) (fun n => -9223372036854775808 ≤ n ∧ n ≤ 9223372036854775807) :=
  ⟨Maps.int_keyed h, fun a ha => ⟨_, Maps.keyOf_int_mk h (by simp only [Lit.wf, Bool.and_eq_true, decide_eq_true_eq]; exact ha)⟩, fun a b e => by simpa using e⟩
end
end
end Go.Proofs.Ytcddhbhdpleppaa.R
